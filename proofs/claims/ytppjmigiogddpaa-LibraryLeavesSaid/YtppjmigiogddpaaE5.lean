/- Chapter 9: what a string is as the name of an object, by the reference: the walk. -/
import Derived.Test.YtppjmigiogddpaaE4
namespace Go.Proofs.Ytppjmigiogddpaa.C08
open Go Go.Proofs Go.Proofs.Ytppjmigiogddpaa.Ab
set_option linter.unusedSimpArgs false
set_option linter.unusedVariables false
attribute [local congr] ite_ctx

theorem seenA_f {s : ByteArray} {i : Nat} (h : seen s i = false) : seenA s i = 0 := by rw [seenA, if_neg (by rw [h]; decide)]
theorem seenL_f {s : ByteArray} {i : Nat} (h : seen s i = false) : seenL s i = ⟨#[]⟩ := by rw [seenL, if_neg (by rw [h]; decide)]
theorem seenA_t {s : ByteArray} {i : Nat} (h : seen s i = true) : seenA s i = slash s + 1 := by rw [seenA, if_pos h]
theorem seenL_t {s : ByteArray} {i : Nat} (h : seen s i = true) : seenL s i = cutA s := by rw [seenL, if_pos h]
theorem seen_none {s : ByteArray} (h : cutF s = false) (i : Nat) : seen s i = false := by
  have := of_decide_eq_false h
  rw [seen, Bool.and_eq_false_iff, decide_eq_false_iff_not]; exact .inl this
theorem no_slash {s : ByteArray} (h : cutF s = false) {i : Nat} (hi : i < s.size) : ¬ byteAt s i = 47 := fun q => by
  have := slash_at hi q
  exact absurd (of_decide_eq_false h) (not_not_intro this.1)
theorem star_t {B : ByteArray} (h : starB B = true) : 0 < B.size ∧ byteAt B (B.size - 1) = 42 := by
  rw [starB, Bool.and_eq_true, decide_eq_true_eq, decide_eq_true_eq] at h; exact h
theorem star_f {B : ByteArray} (h : starB B = false) (h2 : 0 < B.size) : ¬ byteAt B (B.size - 1) = 42 := fun q => by
  rw [starB, Bool.and_eq_false_iff, decide_eq_false_iff_not, decide_eq_false_iff_not] at h
  rcases h with h | h
  · exact h h2
  · exact h q
theorem starN_t {B : ByteArray} (h : starB B = true) : B.extract 0 (B.size - 1) = starN B := by rw [starN, if_pos h]
theorem starN_f {B : ByteArray} (h : starB B = false) : starN B = B := by rw [starN, if_neg (by rw [h]; decide)]

set_option maxHeartbeats 8000000 in
theorem RP_p11 {s : ByteArray} (h : s.size ≤ 1000000) (h0' : decide (s = ⟨#[]⟩) = false) (hF : cutF s = true) (k1 : isSp (cutA s) = true) (hb : starB (cutB s) = true) (k3 : isNm (starN (cutB s)) = true) : RP s := by
  unfold RP
  have hR : parseE s = (⟨cutA s, starN (cutB s), true⟩, 0, 0) := by
    rw [parseE_eq (of_decide_eq_false h0'), pRest, pLib]
    rw [if_pos hF, if_pos hF]
    rw [if_neg (fun q => by rw [k1] at q; cases q.2.1)]
    rw [if_neg (by rw [k3]; decide), hb]
  rw [hR]
  have hsl := slash_le s
  have hN1 := IsName_good
  have hS1 := RefSpecial_good
  have hF2 := of_decide_eq_true hF
  obtain ⟨k, hk⟩ : ∃ k : Nat, slash s = (k : Int) := ⟨(slash s).toNat, by omega⟩
  have hks : k < s.size := by omega
  have hA : s.extract 0 k = cutA s := by rw [cutA, if_pos hF2, hk, Int.toNat_natCast]
  have hB : s.extract (k + 1) s.size = cutB s := by rw [cutB, if_pos hF2, hk, Int.toNat_natCast]
  have hBs := cutB_size s
  have s1 := hS1 (cutA s)
  have m1 := hN1 (cutA s)
  rw [k1] at s1
  have m2 := hN1 (starN (cutB s))
  rw [k3] at m2
  have hbs := (star_t hb).1
  have hbs1 := (star_t hb).2
  have hbs2 : (0 : Int) < ((cutB s).size : Int) := by omega
  have hbs3 : (0 : Int) ≤ (((cutB s).size - 1 : Nat) : Int) := by omega
  have hbs4 : (cutB s).size - 1 < (cutB s).size := by omega
  have hbs5 : (((cutB s).size - 1 : Nat) : Int) ≤ ((cutB s).size : Int) := by omega
  have hN := starN_t hb
  refine good_run [(6, [13, 14, 15, 16, 17, 18, 19, 20, 21, 22, 23, 24, 25, 26, 27, 28, 29, 30, 31, 32], [])] mixed Try.func16 rfl Try.ntmps16 (rs := [.cell 2 23, .tmp 3, .tmp 4]) rfl (by decide +kernel) (by kernel_rfl) rfl ?_
  rw [startE_eq 79 _ _ _ rfl rfl]
  set_option maxRecDepth 100000 in simp (maxSteps := 10000000) only [go_sem, Nat.reduceAdd, Nat.reduceSub, Nat.reduceMul, Nat.reduceLT, Nat.reduceLeDiff, Nat.reduceEqDiff, Nat.reduceMod, Nat.reduceDiv, Int.reduceNeg, Int.reduceLE, Int.reduceLT, Int.reduceToNat, Int.reduceEq, Int.reduceNe, ↓reduceIte,  h0']
  refine loop_by ([13, 14, 15, 16, 17, 18, 19, 20, 21, 22, 23, 24, 25, 26, 27, 28, 29, 30, 31, 32], []) (fun i : Nat => [(.s 6, .int .i64 (seenA s i)), (.s 7, .int .i64 (i : Int)), (.o 5, .obj 1 23 3 false false [[.str (seenL s i), .str ⟨#[]⟩, .bool false]])]) (fun i => s.size - i) (fun i => i ≤ s.size ∧ (seen s i = true → slash s + 1 = (i : Int))) 0 rfl ⟨Nat.zero_le _, fun q => by rw [seen_zero] at q; cases q⟩ ?_ ?_
  · set_option maxRecDepth 100000 in simp (maxSteps := 10000000) only [go_sem, Nat.reduceAdd, Nat.reduceSub, Nat.reduceMul, Nat.reduceLT, Nat.reduceLeDiff, Nat.reduceEqDiff, Nat.reduceMod, Nat.reduceDiv, Int.reduceNeg, Int.reduceLE, Int.reduceLT, Int.reduceToNat, Int.reduceEq, Int.reduceNe, ↓reduceIte,  seenA_f (seen_zero s), seenL_f (seen_zero s), Int.natCast_zero, Int.ofNat_zero]
  rintro c' st' hst i ⟨hi, hI⟩ ih
  refine Classical.byCases (fun hs : seen s i = false => ?_) fun hs => ?_
  · have hik : i ≤ k := by
      rw [seen, Bool.and_eq_false_iff, decide_eq_false_iff_not, decide_eq_false_iff_not] at hs; omega
    have hlt : i < s.size := by omega
    refine Classical.byCases (fun hbk : byteAt s i = 47 => ?_) fun hbk => ?_
    · have hn := seen_now hlt hs hbk
      have hik2 : i = k := by omega
      subst hik2
      set_option maxRecDepth 100000 in simp (maxSteps := 10000000) only [go_sem, Nat.reduceAdd, Nat.reduceSub, Nat.reduceMul, Nat.reduceLT, Nat.reduceLeDiff, Nat.reduceEqDiff, Nat.reduceMod, Nat.reduceDiv, Int.reduceNeg, Int.reduceLE, Int.reduceLT, Int.reduceToNat, Int.reduceEq, Int.reduceNe, ↓reduceIte,  hlt, seenA_f hs, seenL_f hs, hbk, decide_true, Int.natCast_nonneg, Int.toNat_natCast, Int.toNat_zero, Int.le_refl, show (i : Int) ≤ (s.size : Int) by omega, wrap_succ (show i < 9223372036854775807 by omega)]
      refine ih (i + 1) _ ⟨by omega, fun _ => by omega⟩ (by omega) ?_
      set_option maxRecDepth 100000 in simp (maxSteps := 10000000) only [go_sem, Nat.reduceAdd, Nat.reduceSub, Nat.reduceMul, Nat.reduceLT, Nat.reduceLeDiff, Nat.reduceEqDiff, Nat.reduceMod, Nat.reduceDiv, Int.reduceNeg, Int.reduceLE, Int.reduceLT, Int.reduceToNat, Int.reduceEq, Int.reduceNe, ↓reduceIte,  seenA_t hn.2, seenL_t hn.2, hk, hA]
      try (first | rfl | omega)
    · have hn := seen_not hs hbk
      have hlt2 : i < k := by
        rcases Nat.lt_or_ge i k with q | q
        · exact q
        · have : i = k := by omega
          subst this; exact absurd (slash_byte hk) hbk
      set_option maxRecDepth 100000 in simp (maxSteps := 10000000) only [go_sem, Nat.reduceAdd, Nat.reduceSub, Nat.reduceMul, Nat.reduceLT, Nat.reduceLeDiff, Nat.reduceEqDiff, Nat.reduceMod, Nat.reduceDiv, Int.reduceNeg, Int.reduceLE, Int.reduceLT, Int.reduceToNat, Int.reduceEq, Int.reduceNe, ↓reduceIte,  hlt, seenA_f hs, seenL_f hs, hbk, decide_true, decide_false, Int.natCast_nonneg, Int.toNat_natCast, wrap_succ (show i < 9223372036854775807 by omega)]
      refine ih (i + 1) _ ⟨by omega, fun q => by rw [hn] at q; cases q⟩ (by omega) ?_
      set_option maxRecDepth 100000 in simp (maxSteps := 10000000) only [go_sem, Nat.reduceAdd, Nat.reduceSub, Nat.reduceMul, Nat.reduceLT, Nat.reduceLeDiff, Nat.reduceEqDiff, Nat.reduceMod, Nat.reduceDiv, Int.reduceNeg, Int.reduceLE, Int.reduceLT, Int.reduceToNat, Int.reduceEq, Int.reduceNe, ↓reduceIte,  seenA_f hn, seenL_f hn]
  have hs2 : seen s i = true := by simpa using hs
  have hi2 := hI hs2
  have hik : i = k + 1 := by omega
  subst hik
  subst hst
  have hne : ¬ (((k : Int) + 1) = 0) := by omega
  have hpo : (0 : Int) < ((k : Int) + 1) := by omega
  have hto : ((k : Int) + 1).toNat = k + 1 := by omega
  have hle : ((k : Int) + 1) ≤ (s.size : Int) := by omega
  have hge : (0 : Int) ≤ ((k : Int) + 1) := by omega
  set_option maxRecDepth 100000 in simp (maxSteps := 10000000) only [go_sem, Nat.reduceAdd, Nat.reduceSub, Nat.reduceMul, Nat.reduceLT, Nat.reduceLeDiff, Nat.reduceEqDiff, Nat.reduceMod, Nat.reduceDiv, Int.reduceNeg, Int.reduceLE, Int.reduceLT, Int.reduceToNat, Int.reduceEq, Int.reduceNe, ↓reduceIte,  seenA_t hs2, seenL_t hs2, hk]
  refine ifI (fun hl => ?_) fun hl => ?_
  all_goals
    set_option maxRecDepth 100000 in simp (maxSteps := 10000000) only [go_sem, Nat.reduceAdd, Nat.reduceSub, Nat.reduceMul, Nat.reduceLT, Nat.reduceLeDiff, Nat.reduceEqDiff, Nat.reduceMod, Nat.reduceDiv, Int.reduceNeg, Int.reduceLE, Int.reduceLT, Int.reduceToNat, Int.reduceEq, Int.reduceNe, ↓reduceIte,  hl, hne, hpo, decide_true, decide_false]
    refine call_of (s1) ?_
    set_option maxRecDepth 100000 in simp (maxSteps := 10000000) only [go_sem, Nat.reduceAdd, Nat.reduceSub, Nat.reduceMul, Nat.reduceLT, Nat.reduceLeDiff, Nat.reduceEqDiff, Nat.reduceMod, Nat.reduceDiv, Int.reduceNeg, Int.reduceLE, Int.reduceLT, Int.reduceToNat, Int.reduceEq, Int.reduceNe, ↓reduceIte,  Bool.not_true, hto, hle, hge, hB, Int.le_refl]
    set_option maxRecDepth 100000 in simp (maxSteps := 10000000) only [go_sem, Nat.reduceAdd, Nat.reduceSub, Nat.reduceMul, Nat.reduceLT, Nat.reduceLeDiff, Nat.reduceEqDiff, Nat.reduceMod, Nat.reduceDiv, Int.reduceNeg, Int.reduceLE, Int.reduceLT, Int.reduceToNat, Int.reduceEq, Int.reduceNe, ↓reduceIte,  hbs1, hbs2, hbs3, hbs4, hbs5, decide_true, wrap_pred hbs (show (cutB s).size ≤ 9223372036854775807 by omega), Int.toNat_natCast, Int.le_refl, Int.toNat_zero, hN]
    refine call_of (m2) ?_
    set_option maxRecDepth 100000 in simp (maxSteps := 10000000) only [go_sem, Nat.reduceAdd, Nat.reduceSub, Nat.reduceMul, Nat.reduceLT, Nat.reduceLeDiff, Nat.reduceEqDiff, Nat.reduceMod, Nat.reduceDiv, Int.reduceNeg, Int.reduceLE, Int.reduceLT, Int.reduceToNat, Int.reduceEq, Int.reduceNe, ↓reduceIte,  Bool.not_true]
set_option maxHeartbeats 8000000 in
theorem RP_p10 {s : ByteArray} (h : s.size ≤ 1000000) (h0' : decide (s = ⟨#[]⟩) = false) (hF : cutF s = true) (k1 : isSp (cutA s) = true) (hb : starB (cutB s) = true) (k3 : isNm (starN (cutB s)) = false) : RP s := by
  unfold RP
  have hR : parseE s = (zeroQ, slash s + 1, 7) := by
    rw [parseE_eq (of_decide_eq_false h0'), pRest, pLib]
    rw [if_pos hF, if_pos hF]
    rw [if_neg (fun q => by rw [k1] at q; cases q.2.1)]
    rw [if_pos k3]
  rw [hR]
  have hsl := slash_le s
  have hN1 := IsName_good
  have hS1 := RefSpecial_good
  have hF2 := of_decide_eq_true hF
  obtain ⟨k, hk⟩ : ∃ k : Nat, slash s = (k : Int) := ⟨(slash s).toNat, by omega⟩
  have hks : k < s.size := by omega
  have hA : s.extract 0 k = cutA s := by rw [cutA, if_pos hF2, hk, Int.toNat_natCast]
  have hB : s.extract (k + 1) s.size = cutB s := by rw [cutB, if_pos hF2, hk, Int.toNat_natCast]
  have hBs := cutB_size s
  have s1 := hS1 (cutA s)
  have m1 := hN1 (cutA s)
  rw [k1] at s1
  have m2 := hN1 (starN (cutB s))
  rw [k3] at m2
  have hbs := (star_t hb).1
  have hbs1 := (star_t hb).2
  have hbs2 : (0 : Int) < ((cutB s).size : Int) := by omega
  have hbs3 : (0 : Int) ≤ (((cutB s).size - 1 : Nat) : Int) := by omega
  have hbs4 : (cutB s).size - 1 < (cutB s).size := by omega
  have hbs5 : (((cutB s).size - 1 : Nat) : Int) ≤ ((cutB s).size : Int) := by omega
  have hN := starN_t hb
  refine good_run [(6, [13, 14, 15, 16, 17, 18, 19, 20, 21, 22, 23, 24, 25, 26, 27, 28, 29, 30, 31, 32], [])] mixed Try.func16 rfl Try.ntmps16 (rs := [.cell 2 23, .tmp 3, .tmp 4]) rfl (by decide +kernel) (by kernel_rfl) rfl ?_
  rw [startE_eq 79 _ _ _ rfl rfl]
  set_option maxRecDepth 100000 in simp (maxSteps := 10000000) only [go_sem, Nat.reduceAdd, Nat.reduceSub, Nat.reduceMul, Nat.reduceLT, Nat.reduceLeDiff, Nat.reduceEqDiff, Nat.reduceMod, Nat.reduceDiv, Int.reduceNeg, Int.reduceLE, Int.reduceLT, Int.reduceToNat, Int.reduceEq, Int.reduceNe, ↓reduceIte,  h0']
  refine loop_by ([13, 14, 15, 16, 17, 18, 19, 20, 21, 22, 23, 24, 25, 26, 27, 28, 29, 30, 31, 32], []) (fun i : Nat => [(.s 6, .int .i64 (seenA s i)), (.s 7, .int .i64 (i : Int)), (.o 5, .obj 1 23 3 false false [[.str (seenL s i), .str ⟨#[]⟩, .bool false]])]) (fun i => s.size - i) (fun i => i ≤ s.size ∧ (seen s i = true → slash s + 1 = (i : Int))) 0 rfl ⟨Nat.zero_le _, fun q => by rw [seen_zero] at q; cases q⟩ ?_ ?_
  · set_option maxRecDepth 100000 in simp (maxSteps := 10000000) only [go_sem, Nat.reduceAdd, Nat.reduceSub, Nat.reduceMul, Nat.reduceLT, Nat.reduceLeDiff, Nat.reduceEqDiff, Nat.reduceMod, Nat.reduceDiv, Int.reduceNeg, Int.reduceLE, Int.reduceLT, Int.reduceToNat, Int.reduceEq, Int.reduceNe, ↓reduceIte,  seenA_f (seen_zero s), seenL_f (seen_zero s), Int.natCast_zero, Int.ofNat_zero]
  rintro c' st' hst i ⟨hi, hI⟩ ih
  refine Classical.byCases (fun hs : seen s i = false => ?_) fun hs => ?_
  · have hik : i ≤ k := by
      rw [seen, Bool.and_eq_false_iff, decide_eq_false_iff_not, decide_eq_false_iff_not] at hs; omega
    have hlt : i < s.size := by omega
    refine Classical.byCases (fun hbk : byteAt s i = 47 => ?_) fun hbk => ?_
    · have hn := seen_now hlt hs hbk
      have hik2 : i = k := by omega
      subst hik2
      set_option maxRecDepth 100000 in simp (maxSteps := 10000000) only [go_sem, Nat.reduceAdd, Nat.reduceSub, Nat.reduceMul, Nat.reduceLT, Nat.reduceLeDiff, Nat.reduceEqDiff, Nat.reduceMod, Nat.reduceDiv, Int.reduceNeg, Int.reduceLE, Int.reduceLT, Int.reduceToNat, Int.reduceEq, Int.reduceNe, ↓reduceIte,  hlt, seenA_f hs, seenL_f hs, hbk, decide_true, Int.natCast_nonneg, Int.toNat_natCast, Int.toNat_zero, Int.le_refl, show (i : Int) ≤ (s.size : Int) by omega, wrap_succ (show i < 9223372036854775807 by omega)]
      refine ih (i + 1) _ ⟨by omega, fun _ => by omega⟩ (by omega) ?_
      set_option maxRecDepth 100000 in simp (maxSteps := 10000000) only [go_sem, Nat.reduceAdd, Nat.reduceSub, Nat.reduceMul, Nat.reduceLT, Nat.reduceLeDiff, Nat.reduceEqDiff, Nat.reduceMod, Nat.reduceDiv, Int.reduceNeg, Int.reduceLE, Int.reduceLT, Int.reduceToNat, Int.reduceEq, Int.reduceNe, ↓reduceIte,  seenA_t hn.2, seenL_t hn.2, hk, hA]
      try (first | rfl | omega)
    · have hn := seen_not hs hbk
      have hlt2 : i < k := by
        rcases Nat.lt_or_ge i k with q | q
        · exact q
        · have : i = k := by omega
          subst this; exact absurd (slash_byte hk) hbk
      set_option maxRecDepth 100000 in simp (maxSteps := 10000000) only [go_sem, Nat.reduceAdd, Nat.reduceSub, Nat.reduceMul, Nat.reduceLT, Nat.reduceLeDiff, Nat.reduceEqDiff, Nat.reduceMod, Nat.reduceDiv, Int.reduceNeg, Int.reduceLE, Int.reduceLT, Int.reduceToNat, Int.reduceEq, Int.reduceNe, ↓reduceIte,  hlt, seenA_f hs, seenL_f hs, hbk, decide_true, decide_false, Int.natCast_nonneg, Int.toNat_natCast, wrap_succ (show i < 9223372036854775807 by omega)]
      refine ih (i + 1) _ ⟨by omega, fun q => by rw [hn] at q; cases q⟩ (by omega) ?_
      set_option maxRecDepth 100000 in simp (maxSteps := 10000000) only [go_sem, Nat.reduceAdd, Nat.reduceSub, Nat.reduceMul, Nat.reduceLT, Nat.reduceLeDiff, Nat.reduceEqDiff, Nat.reduceMod, Nat.reduceDiv, Int.reduceNeg, Int.reduceLE, Int.reduceLT, Int.reduceToNat, Int.reduceEq, Int.reduceNe, ↓reduceIte,  seenA_f hn, seenL_f hn]
  have hs2 : seen s i = true := by simpa using hs
  have hi2 := hI hs2
  have hik : i = k + 1 := by omega
  subst hik
  subst hst
  have hne : ¬ (((k : Int) + 1) = 0) := by omega
  have hpo : (0 : Int) < ((k : Int) + 1) := by omega
  have hto : ((k : Int) + 1).toNat = k + 1 := by omega
  have hle : ((k : Int) + 1) ≤ (s.size : Int) := by omega
  have hge : (0 : Int) ≤ ((k : Int) + 1) := by omega
  set_option maxRecDepth 100000 in simp (maxSteps := 10000000) only [go_sem, Nat.reduceAdd, Nat.reduceSub, Nat.reduceMul, Nat.reduceLT, Nat.reduceLeDiff, Nat.reduceEqDiff, Nat.reduceMod, Nat.reduceDiv, Int.reduceNeg, Int.reduceLE, Int.reduceLT, Int.reduceToNat, Int.reduceEq, Int.reduceNe, ↓reduceIte,  seenA_t hs2, seenL_t hs2, hk]
  refine ifI (fun hl => ?_) fun hl => ?_
  all_goals
    set_option maxRecDepth 100000 in simp (maxSteps := 10000000) only [go_sem, Nat.reduceAdd, Nat.reduceSub, Nat.reduceMul, Nat.reduceLT, Nat.reduceLeDiff, Nat.reduceEqDiff, Nat.reduceMod, Nat.reduceDiv, Int.reduceNeg, Int.reduceLE, Int.reduceLT, Int.reduceToNat, Int.reduceEq, Int.reduceNe, ↓reduceIte,  hl, hne, hpo, decide_true, decide_false]
    refine call_of (s1) ?_
    set_option maxRecDepth 100000 in simp (maxSteps := 10000000) only [go_sem, Nat.reduceAdd, Nat.reduceSub, Nat.reduceMul, Nat.reduceLT, Nat.reduceLeDiff, Nat.reduceEqDiff, Nat.reduceMod, Nat.reduceDiv, Int.reduceNeg, Int.reduceLE, Int.reduceLT, Int.reduceToNat, Int.reduceEq, Int.reduceNe, ↓reduceIte,  Bool.not_true, hto, hle, hge, hB, Int.le_refl]
    set_option maxRecDepth 100000 in simp (maxSteps := 10000000) only [go_sem, Nat.reduceAdd, Nat.reduceSub, Nat.reduceMul, Nat.reduceLT, Nat.reduceLeDiff, Nat.reduceEqDiff, Nat.reduceMod, Nat.reduceDiv, Int.reduceNeg, Int.reduceLE, Int.reduceLT, Int.reduceToNat, Int.reduceEq, Int.reduceNe, ↓reduceIte,  hbs1, hbs2, hbs3, hbs4, hbs5, decide_true, wrap_pred hbs (show (cutB s).size ≤ 9223372036854775807 by omega), Int.toNat_natCast, Int.le_refl, Int.toNat_zero, hN]
    refine call_of (m2) ?_
    set_option maxRecDepth 100000 in simp (maxSteps := 10000000) only [go_sem, Nat.reduceAdd, Nat.reduceSub, Nat.reduceMul, Nat.reduceLT, Nat.reduceLeDiff, Nat.reduceEqDiff, Nat.reduceMod, Nat.reduceDiv, Int.reduceNeg, Int.reduceLE, Int.reduceLT, Int.reduceToNat, Int.reduceEq, Int.reduceNe, ↓reduceIte,  Bool.not_false]
    try omega
set_option maxHeartbeats 8000000 in
theorem RP_p01 {s : ByteArray} (h : s.size ≤ 1000000) (h0' : decide (s = ⟨#[]⟩) = false) (hF : cutF s = true) (k1 : isSp (cutA s) = true) (hb : starB (cutB s) = false) (k3 : isNm (starN (cutB s)) = true) : RP s := by
  unfold RP
  have hR : parseE s = (⟨cutA s, starN (cutB s), false⟩, 0, 0) := by
    rw [parseE_eq (of_decide_eq_false h0'), pRest, pLib]
    rw [if_pos hF, if_pos hF]
    rw [if_neg (fun q => by rw [k1] at q; cases q.2.1)]
    rw [if_neg (by rw [k3]; decide), hb]
  rw [hR]
  have hsl := slash_le s
  have hN1 := IsName_good
  have hS1 := RefSpecial_good
  have hF2 := of_decide_eq_true hF
  obtain ⟨k, hk⟩ : ∃ k : Nat, slash s = (k : Int) := ⟨(slash s).toNat, by omega⟩
  have hks : k < s.size := by omega
  have hA : s.extract 0 k = cutA s := by rw [cutA, if_pos hF2, hk, Int.toNat_natCast]
  have hB : s.extract (k + 1) s.size = cutB s := by rw [cutB, if_pos hF2, hk, Int.toNat_natCast]
  have hBs := cutB_size s
  have s1 := hS1 (cutA s)
  have m1 := hN1 (cutA s)
  rw [k1] at s1
  have m2 := hN1 (starN (cutB s))
  rw [k3] at m2
  have hNf := starN_f hb
  rw [hNf] at m2
  refine good_run [(6, [13, 14, 15, 16, 17, 18, 19, 20, 21, 22, 23, 24, 25, 26, 27, 28, 29, 30, 31, 32], [])] mixed Try.func16 rfl Try.ntmps16 (rs := [.cell 2 23, .tmp 3, .tmp 4]) rfl (by decide +kernel) (by kernel_rfl) rfl ?_
  rw [startE_eq 79 _ _ _ rfl rfl]
  set_option maxRecDepth 100000 in simp (maxSteps := 10000000) only [go_sem, Nat.reduceAdd, Nat.reduceSub, Nat.reduceMul, Nat.reduceLT, Nat.reduceLeDiff, Nat.reduceEqDiff, Nat.reduceMod, Nat.reduceDiv, Int.reduceNeg, Int.reduceLE, Int.reduceLT, Int.reduceToNat, Int.reduceEq, Int.reduceNe, ↓reduceIte,  h0']
  refine loop_by ([13, 14, 15, 16, 17, 18, 19, 20, 21, 22, 23, 24, 25, 26, 27, 28, 29, 30, 31, 32], []) (fun i : Nat => [(.s 6, .int .i64 (seenA s i)), (.s 7, .int .i64 (i : Int)), (.o 5, .obj 1 23 3 false false [[.str (seenL s i), .str ⟨#[]⟩, .bool false]])]) (fun i => s.size - i) (fun i => i ≤ s.size ∧ (seen s i = true → slash s + 1 = (i : Int))) 0 rfl ⟨Nat.zero_le _, fun q => by rw [seen_zero] at q; cases q⟩ ?_ ?_
  · set_option maxRecDepth 100000 in simp (maxSteps := 10000000) only [go_sem, Nat.reduceAdd, Nat.reduceSub, Nat.reduceMul, Nat.reduceLT, Nat.reduceLeDiff, Nat.reduceEqDiff, Nat.reduceMod, Nat.reduceDiv, Int.reduceNeg, Int.reduceLE, Int.reduceLT, Int.reduceToNat, Int.reduceEq, Int.reduceNe, ↓reduceIte,  seenA_f (seen_zero s), seenL_f (seen_zero s), Int.natCast_zero, Int.ofNat_zero]
  rintro c' st' hst i ⟨hi, hI⟩ ih
  refine Classical.byCases (fun hs : seen s i = false => ?_) fun hs => ?_
  · have hik : i ≤ k := by
      rw [seen, Bool.and_eq_false_iff, decide_eq_false_iff_not, decide_eq_false_iff_not] at hs; omega
    have hlt : i < s.size := by omega
    refine Classical.byCases (fun hbk : byteAt s i = 47 => ?_) fun hbk => ?_
    · have hn := seen_now hlt hs hbk
      have hik2 : i = k := by omega
      subst hik2
      set_option maxRecDepth 100000 in simp (maxSteps := 10000000) only [go_sem, Nat.reduceAdd, Nat.reduceSub, Nat.reduceMul, Nat.reduceLT, Nat.reduceLeDiff, Nat.reduceEqDiff, Nat.reduceMod, Nat.reduceDiv, Int.reduceNeg, Int.reduceLE, Int.reduceLT, Int.reduceToNat, Int.reduceEq, Int.reduceNe, ↓reduceIte,  hlt, seenA_f hs, seenL_f hs, hbk, decide_true, Int.natCast_nonneg, Int.toNat_natCast, Int.toNat_zero, Int.le_refl, show (i : Int) ≤ (s.size : Int) by omega, wrap_succ (show i < 9223372036854775807 by omega)]
      refine ih (i + 1) _ ⟨by omega, fun _ => by omega⟩ (by omega) ?_
      set_option maxRecDepth 100000 in simp (maxSteps := 10000000) only [go_sem, Nat.reduceAdd, Nat.reduceSub, Nat.reduceMul, Nat.reduceLT, Nat.reduceLeDiff, Nat.reduceEqDiff, Nat.reduceMod, Nat.reduceDiv, Int.reduceNeg, Int.reduceLE, Int.reduceLT, Int.reduceToNat, Int.reduceEq, Int.reduceNe, ↓reduceIte,  seenA_t hn.2, seenL_t hn.2, hk, hA]
      try (first | rfl | omega)
    · have hn := seen_not hs hbk
      have hlt2 : i < k := by
        rcases Nat.lt_or_ge i k with q | q
        · exact q
        · have : i = k := by omega
          subst this; exact absurd (slash_byte hk) hbk
      set_option maxRecDepth 100000 in simp (maxSteps := 10000000) only [go_sem, Nat.reduceAdd, Nat.reduceSub, Nat.reduceMul, Nat.reduceLT, Nat.reduceLeDiff, Nat.reduceEqDiff, Nat.reduceMod, Nat.reduceDiv, Int.reduceNeg, Int.reduceLE, Int.reduceLT, Int.reduceToNat, Int.reduceEq, Int.reduceNe, ↓reduceIte,  hlt, seenA_f hs, seenL_f hs, hbk, decide_true, decide_false, Int.natCast_nonneg, Int.toNat_natCast, wrap_succ (show i < 9223372036854775807 by omega)]
      refine ih (i + 1) _ ⟨by omega, fun q => by rw [hn] at q; cases q⟩ (by omega) ?_
      set_option maxRecDepth 100000 in simp (maxSteps := 10000000) only [go_sem, Nat.reduceAdd, Nat.reduceSub, Nat.reduceMul, Nat.reduceLT, Nat.reduceLeDiff, Nat.reduceEqDiff, Nat.reduceMod, Nat.reduceDiv, Int.reduceNeg, Int.reduceLE, Int.reduceLT, Int.reduceToNat, Int.reduceEq, Int.reduceNe, ↓reduceIte,  seenA_f hn, seenL_f hn]
  have hs2 : seen s i = true := by simpa using hs
  have hi2 := hI hs2
  have hik : i = k + 1 := by omega
  subst hik
  subst hst
  have hne : ¬ (((k : Int) + 1) = 0) := by omega
  have hpo : (0 : Int) < ((k : Int) + 1) := by omega
  have hto : ((k : Int) + 1).toNat = k + 1 := by omega
  have hle : ((k : Int) + 1) ≤ (s.size : Int) := by omega
  have hge : (0 : Int) ≤ ((k : Int) + 1) := by omega
  set_option maxRecDepth 100000 in simp (maxSteps := 10000000) only [go_sem, Nat.reduceAdd, Nat.reduceSub, Nat.reduceMul, Nat.reduceLT, Nat.reduceLeDiff, Nat.reduceEqDiff, Nat.reduceMod, Nat.reduceDiv, Int.reduceNeg, Int.reduceLE, Int.reduceLT, Int.reduceToNat, Int.reduceEq, Int.reduceNe, ↓reduceIte,  seenA_t hs2, seenL_t hs2, hk]
  refine ifI (fun hl => ?_) fun hl => ?_
  all_goals
    set_option maxRecDepth 100000 in simp (maxSteps := 10000000) only [go_sem, Nat.reduceAdd, Nat.reduceSub, Nat.reduceMul, Nat.reduceLT, Nat.reduceLeDiff, Nat.reduceEqDiff, Nat.reduceMod, Nat.reduceDiv, Int.reduceNeg, Int.reduceLE, Int.reduceLT, Int.reduceToNat, Int.reduceEq, Int.reduceNe, ↓reduceIte,  hl, hne, hpo, decide_true, decide_false]
    refine call_of (s1) ?_
    set_option maxRecDepth 100000 in simp (maxSteps := 10000000) only [go_sem, Nat.reduceAdd, Nat.reduceSub, Nat.reduceMul, Nat.reduceLT, Nat.reduceLeDiff, Nat.reduceEqDiff, Nat.reduceMod, Nat.reduceDiv, Int.reduceNeg, Int.reduceLE, Int.reduceLT, Int.reduceToNat, Int.reduceEq, Int.reduceNe, ↓reduceIte,  Bool.not_true, hto, hle, hge, hB, Int.le_refl]
    refine ifI (fun hz => ?_) fun hz => ?_
    case' refine_1 =>
      have hz1 : 0 < (cutB s).size := by omega
      have hz2 : (0 : Int) ≤ (((cutB s).size - 1 : Nat) : Int) := by omega
      have hz3 : (cutB s).size - 1 < (cutB s).size := by omega
      have hz4 := star_f hb hz1
      set_option maxRecDepth 100000 in simp (maxSteps := 10000000) only [go_sem, Nat.reduceAdd, Nat.reduceSub, Nat.reduceMul, Nat.reduceLT, Nat.reduceLeDiff, Nat.reduceEqDiff, Nat.reduceMod, Nat.reduceDiv, Int.reduceNeg, Int.reduceLE, Int.reduceLT, Int.reduceToNat, Int.reduceEq, Int.reduceNe, ↓reduceIte,  hz, hz1, hz2, hz3, hz4, decide_true, decide_false, wrap_pred hz1 (show (cutB s).size ≤ 9223372036854775807 by omega), Int.toNat_natCast]
    case' refine_2 =>
      set_option maxRecDepth 100000 in simp (maxSteps := 10000000) only [go_sem, Nat.reduceAdd, Nat.reduceSub, Nat.reduceMul, Nat.reduceLT, Nat.reduceLeDiff, Nat.reduceEqDiff, Nat.reduceMod, Nat.reduceDiv, Int.reduceNeg, Int.reduceLE, Int.reduceLT, Int.reduceToNat, Int.reduceEq, Int.reduceNe, ↓reduceIte,  hz, decide_false]
    all_goals
      refine call_of (m2) ?_
      set_option maxRecDepth 100000 in simp (maxSteps := 10000000) only [go_sem, Nat.reduceAdd, Nat.reduceSub, Nat.reduceMul, Nat.reduceLT, Nat.reduceLeDiff, Nat.reduceEqDiff, Nat.reduceMod, Nat.reduceDiv, Int.reduceNeg, Int.reduceLE, Int.reduceLT, Int.reduceToNat, Int.reduceEq, Int.reduceNe, ↓reduceIte,  Bool.not_true]
      try simp [hNf]
set_option maxHeartbeats 8000000 in
theorem RP_p00 {s : ByteArray} (h : s.size ≤ 1000000) (h0' : decide (s = ⟨#[]⟩) = false) (hF : cutF s = true) (k1 : isSp (cutA s) = true) (hb : starB (cutB s) = false) (k3 : isNm (starN (cutB s)) = false) : RP s := by
  unfold RP
  have hR : parseE s = (zeroQ, slash s + 1, 7) := by
    rw [parseE_eq (of_decide_eq_false h0'), pRest, pLib]
    rw [if_pos hF, if_pos hF]
    rw [if_neg (fun q => by rw [k1] at q; cases q.2.1)]
    rw [if_pos k3]
  rw [hR]
  have hsl := slash_le s
  have hN1 := IsName_good
  have hS1 := RefSpecial_good
  have hF2 := of_decide_eq_true hF
  obtain ⟨k, hk⟩ : ∃ k : Nat, slash s = (k : Int) := ⟨(slash s).toNat, by omega⟩
  have hks : k < s.size := by omega
  have hA : s.extract 0 k = cutA s := by rw [cutA, if_pos hF2, hk, Int.toNat_natCast]
  have hB : s.extract (k + 1) s.size = cutB s := by rw [cutB, if_pos hF2, hk, Int.toNat_natCast]
  have hBs := cutB_size s
  have s1 := hS1 (cutA s)
  have m1 := hN1 (cutA s)
  rw [k1] at s1
  have m2 := hN1 (starN (cutB s))
  rw [k3] at m2
  have hNf := starN_f hb
  rw [hNf] at m2
  refine good_run [(6, [13, 14, 15, 16, 17, 18, 19, 20, 21, 22, 23, 24, 25, 26, 27, 28, 29, 30, 31, 32], [])] mixed Try.func16 rfl Try.ntmps16 (rs := [.cell 2 23, .tmp 3, .tmp 4]) rfl (by decide +kernel) (by kernel_rfl) rfl ?_
  rw [startE_eq 79 _ _ _ rfl rfl]
  set_option maxRecDepth 100000 in simp (maxSteps := 10000000) only [go_sem, Nat.reduceAdd, Nat.reduceSub, Nat.reduceMul, Nat.reduceLT, Nat.reduceLeDiff, Nat.reduceEqDiff, Nat.reduceMod, Nat.reduceDiv, Int.reduceNeg, Int.reduceLE, Int.reduceLT, Int.reduceToNat, Int.reduceEq, Int.reduceNe, ↓reduceIte,  h0']
  refine loop_by ([13, 14, 15, 16, 17, 18, 19, 20, 21, 22, 23, 24, 25, 26, 27, 28, 29, 30, 31, 32], []) (fun i : Nat => [(.s 6, .int .i64 (seenA s i)), (.s 7, .int .i64 (i : Int)), (.o 5, .obj 1 23 3 false false [[.str (seenL s i), .str ⟨#[]⟩, .bool false]])]) (fun i => s.size - i) (fun i => i ≤ s.size ∧ (seen s i = true → slash s + 1 = (i : Int))) 0 rfl ⟨Nat.zero_le _, fun q => by rw [seen_zero] at q; cases q⟩ ?_ ?_
  · set_option maxRecDepth 100000 in simp (maxSteps := 10000000) only [go_sem, Nat.reduceAdd, Nat.reduceSub, Nat.reduceMul, Nat.reduceLT, Nat.reduceLeDiff, Nat.reduceEqDiff, Nat.reduceMod, Nat.reduceDiv, Int.reduceNeg, Int.reduceLE, Int.reduceLT, Int.reduceToNat, Int.reduceEq, Int.reduceNe, ↓reduceIte,  seenA_f (seen_zero s), seenL_f (seen_zero s), Int.natCast_zero, Int.ofNat_zero]
  rintro c' st' hst i ⟨hi, hI⟩ ih
  refine Classical.byCases (fun hs : seen s i = false => ?_) fun hs => ?_
  · have hik : i ≤ k := by
      rw [seen, Bool.and_eq_false_iff, decide_eq_false_iff_not, decide_eq_false_iff_not] at hs; omega
    have hlt : i < s.size := by omega
    refine Classical.byCases (fun hbk : byteAt s i = 47 => ?_) fun hbk => ?_
    · have hn := seen_now hlt hs hbk
      have hik2 : i = k := by omega
      subst hik2
      set_option maxRecDepth 100000 in simp (maxSteps := 10000000) only [go_sem, Nat.reduceAdd, Nat.reduceSub, Nat.reduceMul, Nat.reduceLT, Nat.reduceLeDiff, Nat.reduceEqDiff, Nat.reduceMod, Nat.reduceDiv, Int.reduceNeg, Int.reduceLE, Int.reduceLT, Int.reduceToNat, Int.reduceEq, Int.reduceNe, ↓reduceIte,  hlt, seenA_f hs, seenL_f hs, hbk, decide_true, Int.natCast_nonneg, Int.toNat_natCast, Int.toNat_zero, Int.le_refl, show (i : Int) ≤ (s.size : Int) by omega, wrap_succ (show i < 9223372036854775807 by omega)]
      refine ih (i + 1) _ ⟨by omega, fun _ => by omega⟩ (by omega) ?_
      set_option maxRecDepth 100000 in simp (maxSteps := 10000000) only [go_sem, Nat.reduceAdd, Nat.reduceSub, Nat.reduceMul, Nat.reduceLT, Nat.reduceLeDiff, Nat.reduceEqDiff, Nat.reduceMod, Nat.reduceDiv, Int.reduceNeg, Int.reduceLE, Int.reduceLT, Int.reduceToNat, Int.reduceEq, Int.reduceNe, ↓reduceIte,  seenA_t hn.2, seenL_t hn.2, hk, hA]
      try (first | rfl | omega)
    · have hn := seen_not hs hbk
      have hlt2 : i < k := by
        rcases Nat.lt_or_ge i k with q | q
        · exact q
        · have : i = k := by omega
          subst this; exact absurd (slash_byte hk) hbk
      set_option maxRecDepth 100000 in simp (maxSteps := 10000000) only [go_sem, Nat.reduceAdd, Nat.reduceSub, Nat.reduceMul, Nat.reduceLT, Nat.reduceLeDiff, Nat.reduceEqDiff, Nat.reduceMod, Nat.reduceDiv, Int.reduceNeg, Int.reduceLE, Int.reduceLT, Int.reduceToNat, Int.reduceEq, Int.reduceNe, ↓reduceIte,  hlt, seenA_f hs, seenL_f hs, hbk, decide_true, decide_false, Int.natCast_nonneg, Int.toNat_natCast, wrap_succ (show i < 9223372036854775807 by omega)]
      refine ih (i + 1) _ ⟨by omega, fun q => by rw [hn] at q; cases q⟩ (by omega) ?_
      set_option maxRecDepth 100000 in simp (maxSteps := 10000000) only [go_sem, Nat.reduceAdd, Nat.reduceSub, Nat.reduceMul, Nat.reduceLT, Nat.reduceLeDiff, Nat.reduceEqDiff, Nat.reduceMod, Nat.reduceDiv, Int.reduceNeg, Int.reduceLE, Int.reduceLT, Int.reduceToNat, Int.reduceEq, Int.reduceNe, ↓reduceIte,  seenA_f hn, seenL_f hn]
  have hs2 : seen s i = true := by simpa using hs
  have hi2 := hI hs2
  have hik : i = k + 1 := by omega
  subst hik
  subst hst
  have hne : ¬ (((k : Int) + 1) = 0) := by omega
  have hpo : (0 : Int) < ((k : Int) + 1) := by omega
  have hto : ((k : Int) + 1).toNat = k + 1 := by omega
  have hle : ((k : Int) + 1) ≤ (s.size : Int) := by omega
  have hge : (0 : Int) ≤ ((k : Int) + 1) := by omega
  set_option maxRecDepth 100000 in simp (maxSteps := 10000000) only [go_sem, Nat.reduceAdd, Nat.reduceSub, Nat.reduceMul, Nat.reduceLT, Nat.reduceLeDiff, Nat.reduceEqDiff, Nat.reduceMod, Nat.reduceDiv, Int.reduceNeg, Int.reduceLE, Int.reduceLT, Int.reduceToNat, Int.reduceEq, Int.reduceNe, ↓reduceIte,  seenA_t hs2, seenL_t hs2, hk]
  refine ifI (fun hl => ?_) fun hl => ?_
  all_goals
    set_option maxRecDepth 100000 in simp (maxSteps := 10000000) only [go_sem, Nat.reduceAdd, Nat.reduceSub, Nat.reduceMul, Nat.reduceLT, Nat.reduceLeDiff, Nat.reduceEqDiff, Nat.reduceMod, Nat.reduceDiv, Int.reduceNeg, Int.reduceLE, Int.reduceLT, Int.reduceToNat, Int.reduceEq, Int.reduceNe, ↓reduceIte,  hl, hne, hpo, decide_true, decide_false]
    refine call_of (s1) ?_
    set_option maxRecDepth 100000 in simp (maxSteps := 10000000) only [go_sem, Nat.reduceAdd, Nat.reduceSub, Nat.reduceMul, Nat.reduceLT, Nat.reduceLeDiff, Nat.reduceEqDiff, Nat.reduceMod, Nat.reduceDiv, Int.reduceNeg, Int.reduceLE, Int.reduceLT, Int.reduceToNat, Int.reduceEq, Int.reduceNe, ↓reduceIte,  Bool.not_true, hto, hle, hge, hB, Int.le_refl]
    refine ifI (fun hz => ?_) fun hz => ?_
    case' refine_1 =>
      have hz1 : 0 < (cutB s).size := by omega
      have hz2 : (0 : Int) ≤ (((cutB s).size - 1 : Nat) : Int) := by omega
      have hz3 : (cutB s).size - 1 < (cutB s).size := by omega
      have hz4 := star_f hb hz1
      set_option maxRecDepth 100000 in simp (maxSteps := 10000000) only [go_sem, Nat.reduceAdd, Nat.reduceSub, Nat.reduceMul, Nat.reduceLT, Nat.reduceLeDiff, Nat.reduceEqDiff, Nat.reduceMod, Nat.reduceDiv, Int.reduceNeg, Int.reduceLE, Int.reduceLT, Int.reduceToNat, Int.reduceEq, Int.reduceNe, ↓reduceIte,  hz, hz1, hz2, hz3, hz4, decide_true, decide_false, wrap_pred hz1 (show (cutB s).size ≤ 9223372036854775807 by omega), Int.toNat_natCast]
    case' refine_2 =>
      set_option maxRecDepth 100000 in simp (maxSteps := 10000000) only [go_sem, Nat.reduceAdd, Nat.reduceSub, Nat.reduceMul, Nat.reduceLT, Nat.reduceLeDiff, Nat.reduceEqDiff, Nat.reduceMod, Nat.reduceDiv, Int.reduceNeg, Int.reduceLE, Int.reduceLT, Int.reduceToNat, Int.reduceEq, Int.reduceNe, ↓reduceIte,  hz, decide_false]
    all_goals
      refine call_of (m2) ?_
      set_option maxRecDepth 100000 in simp (maxSteps := 10000000) only [go_sem, Nat.reduceAdd, Nat.reduceSub, Nat.reduceMul, Nat.reduceLT, Nat.reduceLeDiff, Nat.reduceEqDiff, Nat.reduceMod, Nat.reduceDiv, Int.reduceNeg, Int.reduceLE, Int.reduceLT, Int.reduceToNat, Int.reduceEq, Int.reduceNe, ↓reduceIte,  Bool.not_false]
      try omega
set_option maxHeartbeats 8000000 in
theorem RP_q11 {s : ByteArray} (h : s.size ≤ 1000000) (h0' : decide (s = ⟨#[]⟩) = false) (hF : cutF s = true) (k1 : isSp (cutA s) = false) (k2 : isNm (cutA s) = true) (hb : starB (cutB s) = true) (k3 : isNm (starN (cutB s)) = true) : RP s := by
  unfold RP
  have hR : parseE s = (⟨cutA s, starN (cutB s), true⟩, 0, 0) := by
    rw [parseE_eq (of_decide_eq_false h0'), pRest, pLib]
    rw [if_pos hF, if_pos hF]
    rw [if_neg (fun q => by rw [k2] at q; cases q.2.2)]
    rw [if_neg (by rw [k3]; decide), hb]
  rw [hR]
  have hsl := slash_le s
  have hN1 := IsName_good
  have hS1 := RefSpecial_good
  have hF2 := of_decide_eq_true hF
  obtain ⟨k, hk⟩ : ∃ k : Nat, slash s = (k : Int) := ⟨(slash s).toNat, by omega⟩
  have hks : k < s.size := by omega
  have hA : s.extract 0 k = cutA s := by rw [cutA, if_pos hF2, hk, Int.toNat_natCast]
  have hB : s.extract (k + 1) s.size = cutB s := by rw [cutB, if_pos hF2, hk, Int.toNat_natCast]
  have hBs := cutB_size s
  have s1 := hS1 (cutA s)
  have m1 := hN1 (cutA s)
  rw [k1] at s1
  rw [k2] at m1
  have m2 := hN1 (starN (cutB s))
  rw [k3] at m2
  have hbs := (star_t hb).1
  have hbs1 := (star_t hb).2
  have hbs2 : (0 : Int) < ((cutB s).size : Int) := by omega
  have hbs3 : (0 : Int) ≤ (((cutB s).size - 1 : Nat) : Int) := by omega
  have hbs4 : (cutB s).size - 1 < (cutB s).size := by omega
  have hbs5 : (((cutB s).size - 1 : Nat) : Int) ≤ ((cutB s).size : Int) := by omega
  have hN := starN_t hb
  refine good_run [(6, [13, 14, 15, 16, 17, 18, 19, 20, 21, 22, 23, 24, 25, 26, 27, 28, 29, 30, 31, 32], [])] mixed Try.func16 rfl Try.ntmps16 (rs := [.cell 2 23, .tmp 3, .tmp 4]) rfl (by decide +kernel) (by kernel_rfl) rfl ?_
  rw [startE_eq 79 _ _ _ rfl rfl]
  set_option maxRecDepth 100000 in simp (maxSteps := 10000000) only [go_sem, Nat.reduceAdd, Nat.reduceSub, Nat.reduceMul, Nat.reduceLT, Nat.reduceLeDiff, Nat.reduceEqDiff, Nat.reduceMod, Nat.reduceDiv, Int.reduceNeg, Int.reduceLE, Int.reduceLT, Int.reduceToNat, Int.reduceEq, Int.reduceNe, ↓reduceIte,  h0']
  refine loop_by ([13, 14, 15, 16, 17, 18, 19, 20, 21, 22, 23, 24, 25, 26, 27, 28, 29, 30, 31, 32], []) (fun i : Nat => [(.s 6, .int .i64 (seenA s i)), (.s 7, .int .i64 (i : Int)), (.o 5, .obj 1 23 3 false false [[.str (seenL s i), .str ⟨#[]⟩, .bool false]])]) (fun i => s.size - i) (fun i => i ≤ s.size ∧ (seen s i = true → slash s + 1 = (i : Int))) 0 rfl ⟨Nat.zero_le _, fun q => by rw [seen_zero] at q; cases q⟩ ?_ ?_
  · set_option maxRecDepth 100000 in simp (maxSteps := 10000000) only [go_sem, Nat.reduceAdd, Nat.reduceSub, Nat.reduceMul, Nat.reduceLT, Nat.reduceLeDiff, Nat.reduceEqDiff, Nat.reduceMod, Nat.reduceDiv, Int.reduceNeg, Int.reduceLE, Int.reduceLT, Int.reduceToNat, Int.reduceEq, Int.reduceNe, ↓reduceIte,  seenA_f (seen_zero s), seenL_f (seen_zero s), Int.natCast_zero, Int.ofNat_zero]
  rintro c' st' hst i ⟨hi, hI⟩ ih
  refine Classical.byCases (fun hs : seen s i = false => ?_) fun hs => ?_
  · have hik : i ≤ k := by
      rw [seen, Bool.and_eq_false_iff, decide_eq_false_iff_not, decide_eq_false_iff_not] at hs; omega
    have hlt : i < s.size := by omega
    refine Classical.byCases (fun hbk : byteAt s i = 47 => ?_) fun hbk => ?_
    · have hn := seen_now hlt hs hbk
      have hik2 : i = k := by omega
      subst hik2
      set_option maxRecDepth 100000 in simp (maxSteps := 10000000) only [go_sem, Nat.reduceAdd, Nat.reduceSub, Nat.reduceMul, Nat.reduceLT, Nat.reduceLeDiff, Nat.reduceEqDiff, Nat.reduceMod, Nat.reduceDiv, Int.reduceNeg, Int.reduceLE, Int.reduceLT, Int.reduceToNat, Int.reduceEq, Int.reduceNe, ↓reduceIte,  hlt, seenA_f hs, seenL_f hs, hbk, decide_true, Int.natCast_nonneg, Int.toNat_natCast, Int.toNat_zero, Int.le_refl, show (i : Int) ≤ (s.size : Int) by omega, wrap_succ (show i < 9223372036854775807 by omega)]
      refine ih (i + 1) _ ⟨by omega, fun _ => by omega⟩ (by omega) ?_
      set_option maxRecDepth 100000 in simp (maxSteps := 10000000) only [go_sem, Nat.reduceAdd, Nat.reduceSub, Nat.reduceMul, Nat.reduceLT, Nat.reduceLeDiff, Nat.reduceEqDiff, Nat.reduceMod, Nat.reduceDiv, Int.reduceNeg, Int.reduceLE, Int.reduceLT, Int.reduceToNat, Int.reduceEq, Int.reduceNe, ↓reduceIte,  seenA_t hn.2, seenL_t hn.2, hk, hA]
      try (first | rfl | omega)
    · have hn := seen_not hs hbk
      have hlt2 : i < k := by
        rcases Nat.lt_or_ge i k with q | q
        · exact q
        · have : i = k := by omega
          subst this; exact absurd (slash_byte hk) hbk
      set_option maxRecDepth 100000 in simp (maxSteps := 10000000) only [go_sem, Nat.reduceAdd, Nat.reduceSub, Nat.reduceMul, Nat.reduceLT, Nat.reduceLeDiff, Nat.reduceEqDiff, Nat.reduceMod, Nat.reduceDiv, Int.reduceNeg, Int.reduceLE, Int.reduceLT, Int.reduceToNat, Int.reduceEq, Int.reduceNe, ↓reduceIte,  hlt, seenA_f hs, seenL_f hs, hbk, decide_true, decide_false, Int.natCast_nonneg, Int.toNat_natCast, wrap_succ (show i < 9223372036854775807 by omega)]
      refine ih (i + 1) _ ⟨by omega, fun q => by rw [hn] at q; cases q⟩ (by omega) ?_
      set_option maxRecDepth 100000 in simp (maxSteps := 10000000) only [go_sem, Nat.reduceAdd, Nat.reduceSub, Nat.reduceMul, Nat.reduceLT, Nat.reduceLeDiff, Nat.reduceEqDiff, Nat.reduceMod, Nat.reduceDiv, Int.reduceNeg, Int.reduceLE, Int.reduceLT, Int.reduceToNat, Int.reduceEq, Int.reduceNe, ↓reduceIte,  seenA_f hn, seenL_f hn]
  have hs2 : seen s i = true := by simpa using hs
  have hi2 := hI hs2
  have hik : i = k + 1 := by omega
  subst hik
  subst hst
  have hne : ¬ (((k : Int) + 1) = 0) := by omega
  have hpo : (0 : Int) < ((k : Int) + 1) := by omega
  have hto : ((k : Int) + 1).toNat = k + 1 := by omega
  have hle : ((k : Int) + 1) ≤ (s.size : Int) := by omega
  have hge : (0 : Int) ≤ ((k : Int) + 1) := by omega
  set_option maxRecDepth 100000 in simp (maxSteps := 10000000) only [go_sem, Nat.reduceAdd, Nat.reduceSub, Nat.reduceMul, Nat.reduceLT, Nat.reduceLeDiff, Nat.reduceEqDiff, Nat.reduceMod, Nat.reduceDiv, Int.reduceNeg, Int.reduceLE, Int.reduceLT, Int.reduceToNat, Int.reduceEq, Int.reduceNe, ↓reduceIte,  seenA_t hs2, seenL_t hs2, hk]
  refine ifI (fun hl => ?_) fun hl => ?_
  all_goals
    set_option maxRecDepth 100000 in simp (maxSteps := 10000000) only [go_sem, Nat.reduceAdd, Nat.reduceSub, Nat.reduceMul, Nat.reduceLT, Nat.reduceLeDiff, Nat.reduceEqDiff, Nat.reduceMod, Nat.reduceDiv, Int.reduceNeg, Int.reduceLE, Int.reduceLT, Int.reduceToNat, Int.reduceEq, Int.reduceNe, ↓reduceIte,  hl, hne, hpo, decide_true, decide_false]
    refine call_of (s1) ?_
    set_option maxRecDepth 100000 in simp (maxSteps := 10000000) only [go_sem, Nat.reduceAdd, Nat.reduceSub, Nat.reduceMul, Nat.reduceLT, Nat.reduceLeDiff, Nat.reduceEqDiff, Nat.reduceMod, Nat.reduceDiv, Int.reduceNeg, Int.reduceLE, Int.reduceLT, Int.reduceToNat, Int.reduceEq, Int.reduceNe, ↓reduceIte,  Bool.not_false]
    refine call_of (m1) ?_
    set_option maxRecDepth 100000 in simp (maxSteps := 10000000) only [go_sem, Nat.reduceAdd, Nat.reduceSub, Nat.reduceMul, Nat.reduceLT, Nat.reduceLeDiff, Nat.reduceEqDiff, Nat.reduceMod, Nat.reduceDiv, Int.reduceNeg, Int.reduceLE, Int.reduceLT, Int.reduceToNat, Int.reduceEq, Int.reduceNe, ↓reduceIte,  Bool.not_true, hto, hle, hge, hB, Int.le_refl]
    set_option maxRecDepth 100000 in simp (maxSteps := 10000000) only [go_sem, Nat.reduceAdd, Nat.reduceSub, Nat.reduceMul, Nat.reduceLT, Nat.reduceLeDiff, Nat.reduceEqDiff, Nat.reduceMod, Nat.reduceDiv, Int.reduceNeg, Int.reduceLE, Int.reduceLT, Int.reduceToNat, Int.reduceEq, Int.reduceNe, ↓reduceIte,  hbs1, hbs2, hbs3, hbs4, hbs5, decide_true, wrap_pred hbs (show (cutB s).size ≤ 9223372036854775807 by omega), Int.toNat_natCast, Int.le_refl, Int.toNat_zero, hN]
    refine call_of (m2) ?_
    set_option maxRecDepth 100000 in simp (maxSteps := 10000000) only [go_sem, Nat.reduceAdd, Nat.reduceSub, Nat.reduceMul, Nat.reduceLT, Nat.reduceLeDiff, Nat.reduceEqDiff, Nat.reduceMod, Nat.reduceDiv, Int.reduceNeg, Int.reduceLE, Int.reduceLT, Int.reduceToNat, Int.reduceEq, Int.reduceNe, ↓reduceIte,  Bool.not_true]
set_option maxHeartbeats 8000000 in
theorem RP_q10 {s : ByteArray} (h : s.size ≤ 1000000) (h0' : decide (s = ⟨#[]⟩) = false) (hF : cutF s = true) (k1 : isSp (cutA s) = false) (k2 : isNm (cutA s) = true) (hb : starB (cutB s) = true) (k3 : isNm (starN (cutB s)) = false) : RP s := by
  unfold RP
  have hR : parseE s = (zeroQ, slash s + 1, 7) := by
    rw [parseE_eq (of_decide_eq_false h0'), pRest, pLib]
    rw [if_pos hF, if_pos hF]
    rw [if_neg (fun q => by rw [k2] at q; cases q.2.2)]
    rw [if_pos k3]
  rw [hR]
  have hsl := slash_le s
  have hN1 := IsName_good
  have hS1 := RefSpecial_good
  have hF2 := of_decide_eq_true hF
  obtain ⟨k, hk⟩ : ∃ k : Nat, slash s = (k : Int) := ⟨(slash s).toNat, by omega⟩
  have hks : k < s.size := by omega
  have hA : s.extract 0 k = cutA s := by rw [cutA, if_pos hF2, hk, Int.toNat_natCast]
  have hB : s.extract (k + 1) s.size = cutB s := by rw [cutB, if_pos hF2, hk, Int.toNat_natCast]
  have hBs := cutB_size s
  have s1 := hS1 (cutA s)
  have m1 := hN1 (cutA s)
  rw [k1] at s1
  rw [k2] at m1
  have m2 := hN1 (starN (cutB s))
  rw [k3] at m2
  have hbs := (star_t hb).1
  have hbs1 := (star_t hb).2
  have hbs2 : (0 : Int) < ((cutB s).size : Int) := by omega
  have hbs3 : (0 : Int) ≤ (((cutB s).size - 1 : Nat) : Int) := by omega
  have hbs4 : (cutB s).size - 1 < (cutB s).size := by omega
  have hbs5 : (((cutB s).size - 1 : Nat) : Int) ≤ ((cutB s).size : Int) := by omega
  have hN := starN_t hb
  refine good_run [(6, [13, 14, 15, 16, 17, 18, 19, 20, 21, 22, 23, 24, 25, 26, 27, 28, 29, 30, 31, 32], [])] mixed Try.func16 rfl Try.ntmps16 (rs := [.cell 2 23, .tmp 3, .tmp 4]) rfl (by decide +kernel) (by kernel_rfl) rfl ?_
  rw [startE_eq 79 _ _ _ rfl rfl]
  set_option maxRecDepth 100000 in simp (maxSteps := 10000000) only [go_sem, Nat.reduceAdd, Nat.reduceSub, Nat.reduceMul, Nat.reduceLT, Nat.reduceLeDiff, Nat.reduceEqDiff, Nat.reduceMod, Nat.reduceDiv, Int.reduceNeg, Int.reduceLE, Int.reduceLT, Int.reduceToNat, Int.reduceEq, Int.reduceNe, ↓reduceIte,  h0']
  refine loop_by ([13, 14, 15, 16, 17, 18, 19, 20, 21, 22, 23, 24, 25, 26, 27, 28, 29, 30, 31, 32], []) (fun i : Nat => [(.s 6, .int .i64 (seenA s i)), (.s 7, .int .i64 (i : Int)), (.o 5, .obj 1 23 3 false false [[.str (seenL s i), .str ⟨#[]⟩, .bool false]])]) (fun i => s.size - i) (fun i => i ≤ s.size ∧ (seen s i = true → slash s + 1 = (i : Int))) 0 rfl ⟨Nat.zero_le _, fun q => by rw [seen_zero] at q; cases q⟩ ?_ ?_
  · set_option maxRecDepth 100000 in simp (maxSteps := 10000000) only [go_sem, Nat.reduceAdd, Nat.reduceSub, Nat.reduceMul, Nat.reduceLT, Nat.reduceLeDiff, Nat.reduceEqDiff, Nat.reduceMod, Nat.reduceDiv, Int.reduceNeg, Int.reduceLE, Int.reduceLT, Int.reduceToNat, Int.reduceEq, Int.reduceNe, ↓reduceIte,  seenA_f (seen_zero s), seenL_f (seen_zero s), Int.natCast_zero, Int.ofNat_zero]
  rintro c' st' hst i ⟨hi, hI⟩ ih
  refine Classical.byCases (fun hs : seen s i = false => ?_) fun hs => ?_
  · have hik : i ≤ k := by
      rw [seen, Bool.and_eq_false_iff, decide_eq_false_iff_not, decide_eq_false_iff_not] at hs; omega
    have hlt : i < s.size := by omega
    refine Classical.byCases (fun hbk : byteAt s i = 47 => ?_) fun hbk => ?_
    · have hn := seen_now hlt hs hbk
      have hik2 : i = k := by omega
      subst hik2
      set_option maxRecDepth 100000 in simp (maxSteps := 10000000) only [go_sem, Nat.reduceAdd, Nat.reduceSub, Nat.reduceMul, Nat.reduceLT, Nat.reduceLeDiff, Nat.reduceEqDiff, Nat.reduceMod, Nat.reduceDiv, Int.reduceNeg, Int.reduceLE, Int.reduceLT, Int.reduceToNat, Int.reduceEq, Int.reduceNe, ↓reduceIte,  hlt, seenA_f hs, seenL_f hs, hbk, decide_true, Int.natCast_nonneg, Int.toNat_natCast, Int.toNat_zero, Int.le_refl, show (i : Int) ≤ (s.size : Int) by omega, wrap_succ (show i < 9223372036854775807 by omega)]
      refine ih (i + 1) _ ⟨by omega, fun _ => by omega⟩ (by omega) ?_
      set_option maxRecDepth 100000 in simp (maxSteps := 10000000) only [go_sem, Nat.reduceAdd, Nat.reduceSub, Nat.reduceMul, Nat.reduceLT, Nat.reduceLeDiff, Nat.reduceEqDiff, Nat.reduceMod, Nat.reduceDiv, Int.reduceNeg, Int.reduceLE, Int.reduceLT, Int.reduceToNat, Int.reduceEq, Int.reduceNe, ↓reduceIte,  seenA_t hn.2, seenL_t hn.2, hk, hA]
      try (first | rfl | omega)
    · have hn := seen_not hs hbk
      have hlt2 : i < k := by
        rcases Nat.lt_or_ge i k with q | q
        · exact q
        · have : i = k := by omega
          subst this; exact absurd (slash_byte hk) hbk
      set_option maxRecDepth 100000 in simp (maxSteps := 10000000) only [go_sem, Nat.reduceAdd, Nat.reduceSub, Nat.reduceMul, Nat.reduceLT, Nat.reduceLeDiff, Nat.reduceEqDiff, Nat.reduceMod, Nat.reduceDiv, Int.reduceNeg, Int.reduceLE, Int.reduceLT, Int.reduceToNat, Int.reduceEq, Int.reduceNe, ↓reduceIte,  hlt, seenA_f hs, seenL_f hs, hbk, decide_true, decide_false, Int.natCast_nonneg, Int.toNat_natCast, wrap_succ (show i < 9223372036854775807 by omega)]
      refine ih (i + 1) _ ⟨by omega, fun q => by rw [hn] at q; cases q⟩ (by omega) ?_
      set_option maxRecDepth 100000 in simp (maxSteps := 10000000) only [go_sem, Nat.reduceAdd, Nat.reduceSub, Nat.reduceMul, Nat.reduceLT, Nat.reduceLeDiff, Nat.reduceEqDiff, Nat.reduceMod, Nat.reduceDiv, Int.reduceNeg, Int.reduceLE, Int.reduceLT, Int.reduceToNat, Int.reduceEq, Int.reduceNe, ↓reduceIte,  seenA_f hn, seenL_f hn]
  have hs2 : seen s i = true := by simpa using hs
  have hi2 := hI hs2
  have hik : i = k + 1 := by omega
  subst hik
  subst hst
  have hne : ¬ (((k : Int) + 1) = 0) := by omega
  have hpo : (0 : Int) < ((k : Int) + 1) := by omega
  have hto : ((k : Int) + 1).toNat = k + 1 := by omega
  have hle : ((k : Int) + 1) ≤ (s.size : Int) := by omega
  have hge : (0 : Int) ≤ ((k : Int) + 1) := by omega
  set_option maxRecDepth 100000 in simp (maxSteps := 10000000) only [go_sem, Nat.reduceAdd, Nat.reduceSub, Nat.reduceMul, Nat.reduceLT, Nat.reduceLeDiff, Nat.reduceEqDiff, Nat.reduceMod, Nat.reduceDiv, Int.reduceNeg, Int.reduceLE, Int.reduceLT, Int.reduceToNat, Int.reduceEq, Int.reduceNe, ↓reduceIte,  seenA_t hs2, seenL_t hs2, hk]
  refine ifI (fun hl => ?_) fun hl => ?_
  all_goals
    set_option maxRecDepth 100000 in simp (maxSteps := 10000000) only [go_sem, Nat.reduceAdd, Nat.reduceSub, Nat.reduceMul, Nat.reduceLT, Nat.reduceLeDiff, Nat.reduceEqDiff, Nat.reduceMod, Nat.reduceDiv, Int.reduceNeg, Int.reduceLE, Int.reduceLT, Int.reduceToNat, Int.reduceEq, Int.reduceNe, ↓reduceIte,  hl, hne, hpo, decide_true, decide_false]
    refine call_of (s1) ?_
    set_option maxRecDepth 100000 in simp (maxSteps := 10000000) only [go_sem, Nat.reduceAdd, Nat.reduceSub, Nat.reduceMul, Nat.reduceLT, Nat.reduceLeDiff, Nat.reduceEqDiff, Nat.reduceMod, Nat.reduceDiv, Int.reduceNeg, Int.reduceLE, Int.reduceLT, Int.reduceToNat, Int.reduceEq, Int.reduceNe, ↓reduceIte,  Bool.not_false]
    refine call_of (m1) ?_
    set_option maxRecDepth 100000 in simp (maxSteps := 10000000) only [go_sem, Nat.reduceAdd, Nat.reduceSub, Nat.reduceMul, Nat.reduceLT, Nat.reduceLeDiff, Nat.reduceEqDiff, Nat.reduceMod, Nat.reduceDiv, Int.reduceNeg, Int.reduceLE, Int.reduceLT, Int.reduceToNat, Int.reduceEq, Int.reduceNe, ↓reduceIte,  Bool.not_true, hto, hle, hge, hB, Int.le_refl]
    set_option maxRecDepth 100000 in simp (maxSteps := 10000000) only [go_sem, Nat.reduceAdd, Nat.reduceSub, Nat.reduceMul, Nat.reduceLT, Nat.reduceLeDiff, Nat.reduceEqDiff, Nat.reduceMod, Nat.reduceDiv, Int.reduceNeg, Int.reduceLE, Int.reduceLT, Int.reduceToNat, Int.reduceEq, Int.reduceNe, ↓reduceIte,  hbs1, hbs2, hbs3, hbs4, hbs5, decide_true, wrap_pred hbs (show (cutB s).size ≤ 9223372036854775807 by omega), Int.toNat_natCast, Int.le_refl, Int.toNat_zero, hN]
    refine call_of (m2) ?_
    set_option maxRecDepth 100000 in simp (maxSteps := 10000000) only [go_sem, Nat.reduceAdd, Nat.reduceSub, Nat.reduceMul, Nat.reduceLT, Nat.reduceLeDiff, Nat.reduceEqDiff, Nat.reduceMod, Nat.reduceDiv, Int.reduceNeg, Int.reduceLE, Int.reduceLT, Int.reduceToNat, Int.reduceEq, Int.reduceNe, ↓reduceIte,  Bool.not_false]
    try omega
set_option maxHeartbeats 8000000 in
theorem RP_q01 {s : ByteArray} (h : s.size ≤ 1000000) (h0' : decide (s = ⟨#[]⟩) = false) (hF : cutF s = true) (k1 : isSp (cutA s) = false) (k2 : isNm (cutA s) = true) (hb : starB (cutB s) = false) (k3 : isNm (starN (cutB s)) = true) : RP s := by
  unfold RP
  have hR : parseE s = (⟨cutA s, starN (cutB s), false⟩, 0, 0) := by
    rw [parseE_eq (of_decide_eq_false h0'), pRest, pLib]
    rw [if_pos hF, if_pos hF]
    rw [if_neg (fun q => by rw [k2] at q; cases q.2.2)]
    rw [if_neg (by rw [k3]; decide), hb]
  rw [hR]
  have hsl := slash_le s
  have hN1 := IsName_good
  have hS1 := RefSpecial_good
  have hF2 := of_decide_eq_true hF
  obtain ⟨k, hk⟩ : ∃ k : Nat, slash s = (k : Int) := ⟨(slash s).toNat, by omega⟩
  have hks : k < s.size := by omega
  have hA : s.extract 0 k = cutA s := by rw [cutA, if_pos hF2, hk, Int.toNat_natCast]
  have hB : s.extract (k + 1) s.size = cutB s := by rw [cutB, if_pos hF2, hk, Int.toNat_natCast]
  have hBs := cutB_size s
  have s1 := hS1 (cutA s)
  have m1 := hN1 (cutA s)
  rw [k1] at s1
  rw [k2] at m1
  have m2 := hN1 (starN (cutB s))
  rw [k3] at m2
  have hNf := starN_f hb
  rw [hNf] at m2
  refine good_run [(6, [13, 14, 15, 16, 17, 18, 19, 20, 21, 22, 23, 24, 25, 26, 27, 28, 29, 30, 31, 32], [])] mixed Try.func16 rfl Try.ntmps16 (rs := [.cell 2 23, .tmp 3, .tmp 4]) rfl (by decide +kernel) (by kernel_rfl) rfl ?_
  rw [startE_eq 79 _ _ _ rfl rfl]
  set_option maxRecDepth 100000 in simp (maxSteps := 10000000) only [go_sem, Nat.reduceAdd, Nat.reduceSub, Nat.reduceMul, Nat.reduceLT, Nat.reduceLeDiff, Nat.reduceEqDiff, Nat.reduceMod, Nat.reduceDiv, Int.reduceNeg, Int.reduceLE, Int.reduceLT, Int.reduceToNat, Int.reduceEq, Int.reduceNe, ↓reduceIte,  h0']
  refine loop_by ([13, 14, 15, 16, 17, 18, 19, 20, 21, 22, 23, 24, 25, 26, 27, 28, 29, 30, 31, 32], []) (fun i : Nat => [(.s 6, .int .i64 (seenA s i)), (.s 7, .int .i64 (i : Int)), (.o 5, .obj 1 23 3 false false [[.str (seenL s i), .str ⟨#[]⟩, .bool false]])]) (fun i => s.size - i) (fun i => i ≤ s.size ∧ (seen s i = true → slash s + 1 = (i : Int))) 0 rfl ⟨Nat.zero_le _, fun q => by rw [seen_zero] at q; cases q⟩ ?_ ?_
  · set_option maxRecDepth 100000 in simp (maxSteps := 10000000) only [go_sem, Nat.reduceAdd, Nat.reduceSub, Nat.reduceMul, Nat.reduceLT, Nat.reduceLeDiff, Nat.reduceEqDiff, Nat.reduceMod, Nat.reduceDiv, Int.reduceNeg, Int.reduceLE, Int.reduceLT, Int.reduceToNat, Int.reduceEq, Int.reduceNe, ↓reduceIte,  seenA_f (seen_zero s), seenL_f (seen_zero s), Int.natCast_zero, Int.ofNat_zero]
  rintro c' st' hst i ⟨hi, hI⟩ ih
  refine Classical.byCases (fun hs : seen s i = false => ?_) fun hs => ?_
  · have hik : i ≤ k := by
      rw [seen, Bool.and_eq_false_iff, decide_eq_false_iff_not, decide_eq_false_iff_not] at hs; omega
    have hlt : i < s.size := by omega
    refine Classical.byCases (fun hbk : byteAt s i = 47 => ?_) fun hbk => ?_
    · have hn := seen_now hlt hs hbk
      have hik2 : i = k := by omega
      subst hik2
      set_option maxRecDepth 100000 in simp (maxSteps := 10000000) only [go_sem, Nat.reduceAdd, Nat.reduceSub, Nat.reduceMul, Nat.reduceLT, Nat.reduceLeDiff, Nat.reduceEqDiff, Nat.reduceMod, Nat.reduceDiv, Int.reduceNeg, Int.reduceLE, Int.reduceLT, Int.reduceToNat, Int.reduceEq, Int.reduceNe, ↓reduceIte,  hlt, seenA_f hs, seenL_f hs, hbk, decide_true, Int.natCast_nonneg, Int.toNat_natCast, Int.toNat_zero, Int.le_refl, show (i : Int) ≤ (s.size : Int) by omega, wrap_succ (show i < 9223372036854775807 by omega)]
      refine ih (i + 1) _ ⟨by omega, fun _ => by omega⟩ (by omega) ?_
      set_option maxRecDepth 100000 in simp (maxSteps := 10000000) only [go_sem, Nat.reduceAdd, Nat.reduceSub, Nat.reduceMul, Nat.reduceLT, Nat.reduceLeDiff, Nat.reduceEqDiff, Nat.reduceMod, Nat.reduceDiv, Int.reduceNeg, Int.reduceLE, Int.reduceLT, Int.reduceToNat, Int.reduceEq, Int.reduceNe, ↓reduceIte,  seenA_t hn.2, seenL_t hn.2, hk, hA]
      try (first | rfl | omega)
    · have hn := seen_not hs hbk
      have hlt2 : i < k := by
        rcases Nat.lt_or_ge i k with q | q
        · exact q
        · have : i = k := by omega
          subst this; exact absurd (slash_byte hk) hbk
      set_option maxRecDepth 100000 in simp (maxSteps := 10000000) only [go_sem, Nat.reduceAdd, Nat.reduceSub, Nat.reduceMul, Nat.reduceLT, Nat.reduceLeDiff, Nat.reduceEqDiff, Nat.reduceMod, Nat.reduceDiv, Int.reduceNeg, Int.reduceLE, Int.reduceLT, Int.reduceToNat, Int.reduceEq, Int.reduceNe, ↓reduceIte,  hlt, seenA_f hs, seenL_f hs, hbk, decide_true, decide_false, Int.natCast_nonneg, Int.toNat_natCast, wrap_succ (show i < 9223372036854775807 by omega)]
      refine ih (i + 1) _ ⟨by omega, fun q => by rw [hn] at q; cases q⟩ (by omega) ?_
      set_option maxRecDepth 100000 in simp (maxSteps := 10000000) only [go_sem, Nat.reduceAdd, Nat.reduceSub, Nat.reduceMul, Nat.reduceLT, Nat.reduceLeDiff, Nat.reduceEqDiff, Nat.reduceMod, Nat.reduceDiv, Int.reduceNeg, Int.reduceLE, Int.reduceLT, Int.reduceToNat, Int.reduceEq, Int.reduceNe, ↓reduceIte,  seenA_f hn, seenL_f hn]
  have hs2 : seen s i = true := by simpa using hs
  have hi2 := hI hs2
  have hik : i = k + 1 := by omega
  subst hik
  subst hst
  have hne : ¬ (((k : Int) + 1) = 0) := by omega
  have hpo : (0 : Int) < ((k : Int) + 1) := by omega
  have hto : ((k : Int) + 1).toNat = k + 1 := by omega
  have hle : ((k : Int) + 1) ≤ (s.size : Int) := by omega
  have hge : (0 : Int) ≤ ((k : Int) + 1) := by omega
  set_option maxRecDepth 100000 in simp (maxSteps := 10000000) only [go_sem, Nat.reduceAdd, Nat.reduceSub, Nat.reduceMul, Nat.reduceLT, Nat.reduceLeDiff, Nat.reduceEqDiff, Nat.reduceMod, Nat.reduceDiv, Int.reduceNeg, Int.reduceLE, Int.reduceLT, Int.reduceToNat, Int.reduceEq, Int.reduceNe, ↓reduceIte,  seenA_t hs2, seenL_t hs2, hk]
  refine ifI (fun hl => ?_) fun hl => ?_
  all_goals
    set_option maxRecDepth 100000 in simp (maxSteps := 10000000) only [go_sem, Nat.reduceAdd, Nat.reduceSub, Nat.reduceMul, Nat.reduceLT, Nat.reduceLeDiff, Nat.reduceEqDiff, Nat.reduceMod, Nat.reduceDiv, Int.reduceNeg, Int.reduceLE, Int.reduceLT, Int.reduceToNat, Int.reduceEq, Int.reduceNe, ↓reduceIte,  hl, hne, hpo, decide_true, decide_false]
    refine call_of (s1) ?_
    set_option maxRecDepth 100000 in simp (maxSteps := 10000000) only [go_sem, Nat.reduceAdd, Nat.reduceSub, Nat.reduceMul, Nat.reduceLT, Nat.reduceLeDiff, Nat.reduceEqDiff, Nat.reduceMod, Nat.reduceDiv, Int.reduceNeg, Int.reduceLE, Int.reduceLT, Int.reduceToNat, Int.reduceEq, Int.reduceNe, ↓reduceIte,  Bool.not_false]
    refine call_of (m1) ?_
    set_option maxRecDepth 100000 in simp (maxSteps := 10000000) only [go_sem, Nat.reduceAdd, Nat.reduceSub, Nat.reduceMul, Nat.reduceLT, Nat.reduceLeDiff, Nat.reduceEqDiff, Nat.reduceMod, Nat.reduceDiv, Int.reduceNeg, Int.reduceLE, Int.reduceLT, Int.reduceToNat, Int.reduceEq, Int.reduceNe, ↓reduceIte,  Bool.not_true, hto, hle, hge, hB, Int.le_refl]
    refine ifI (fun hz => ?_) fun hz => ?_
    case' refine_1 =>
      have hz1 : 0 < (cutB s).size := by omega
      have hz2 : (0 : Int) ≤ (((cutB s).size - 1 : Nat) : Int) := by omega
      have hz3 : (cutB s).size - 1 < (cutB s).size := by omega
      have hz4 := star_f hb hz1
      set_option maxRecDepth 100000 in simp (maxSteps := 10000000) only [go_sem, Nat.reduceAdd, Nat.reduceSub, Nat.reduceMul, Nat.reduceLT, Nat.reduceLeDiff, Nat.reduceEqDiff, Nat.reduceMod, Nat.reduceDiv, Int.reduceNeg, Int.reduceLE, Int.reduceLT, Int.reduceToNat, Int.reduceEq, Int.reduceNe, ↓reduceIte,  hz, hz1, hz2, hz3, hz4, decide_true, decide_false, wrap_pred hz1 (show (cutB s).size ≤ 9223372036854775807 by omega), Int.toNat_natCast]
    case' refine_2 =>
      set_option maxRecDepth 100000 in simp (maxSteps := 10000000) only [go_sem, Nat.reduceAdd, Nat.reduceSub, Nat.reduceMul, Nat.reduceLT, Nat.reduceLeDiff, Nat.reduceEqDiff, Nat.reduceMod, Nat.reduceDiv, Int.reduceNeg, Int.reduceLE, Int.reduceLT, Int.reduceToNat, Int.reduceEq, Int.reduceNe, ↓reduceIte,  hz, decide_false]
    all_goals
      refine call_of (m2) ?_
      set_option maxRecDepth 100000 in simp (maxSteps := 10000000) only [go_sem, Nat.reduceAdd, Nat.reduceSub, Nat.reduceMul, Nat.reduceLT, Nat.reduceLeDiff, Nat.reduceEqDiff, Nat.reduceMod, Nat.reduceDiv, Int.reduceNeg, Int.reduceLE, Int.reduceLT, Int.reduceToNat, Int.reduceEq, Int.reduceNe, ↓reduceIte,  Bool.not_true]
      try simp [hNf]
set_option maxHeartbeats 8000000 in
theorem RP_q00 {s : ByteArray} (h : s.size ≤ 1000000) (h0' : decide (s = ⟨#[]⟩) = false) (hF : cutF s = true) (k1 : isSp (cutA s) = false) (k2 : isNm (cutA s) = true) (hb : starB (cutB s) = false) (k3 : isNm (starN (cutB s)) = false) : RP s := by
  unfold RP
  have hR : parseE s = (zeroQ, slash s + 1, 7) := by
    rw [parseE_eq (of_decide_eq_false h0'), pRest, pLib]
    rw [if_pos hF, if_pos hF]
    rw [if_neg (fun q => by rw [k2] at q; cases q.2.2)]
    rw [if_pos k3]
  rw [hR]
  have hsl := slash_le s
  have hN1 := IsName_good
  have hS1 := RefSpecial_good
  have hF2 := of_decide_eq_true hF
  obtain ⟨k, hk⟩ : ∃ k : Nat, slash s = (k : Int) := ⟨(slash s).toNat, by omega⟩
  have hks : k < s.size := by omega
  have hA : s.extract 0 k = cutA s := by rw [cutA, if_pos hF2, hk, Int.toNat_natCast]
  have hB : s.extract (k + 1) s.size = cutB s := by rw [cutB, if_pos hF2, hk, Int.toNat_natCast]
  have hBs := cutB_size s
  have s1 := hS1 (cutA s)
  have m1 := hN1 (cutA s)
  rw [k1] at s1
  rw [k2] at m1
  have m2 := hN1 (starN (cutB s))
  rw [k3] at m2
  have hNf := starN_f hb
  rw [hNf] at m2
  refine good_run [(6, [13, 14, 15, 16, 17, 18, 19, 20, 21, 22, 23, 24, 25, 26, 27, 28, 29, 30, 31, 32], [])] mixed Try.func16 rfl Try.ntmps16 (rs := [.cell 2 23, .tmp 3, .tmp 4]) rfl (by decide +kernel) (by kernel_rfl) rfl ?_
  rw [startE_eq 79 _ _ _ rfl rfl]
  set_option maxRecDepth 100000 in simp (maxSteps := 10000000) only [go_sem, Nat.reduceAdd, Nat.reduceSub, Nat.reduceMul, Nat.reduceLT, Nat.reduceLeDiff, Nat.reduceEqDiff, Nat.reduceMod, Nat.reduceDiv, Int.reduceNeg, Int.reduceLE, Int.reduceLT, Int.reduceToNat, Int.reduceEq, Int.reduceNe, ↓reduceIte,  h0']
  refine loop_by ([13, 14, 15, 16, 17, 18, 19, 20, 21, 22, 23, 24, 25, 26, 27, 28, 29, 30, 31, 32], []) (fun i : Nat => [(.s 6, .int .i64 (seenA s i)), (.s 7, .int .i64 (i : Int)), (.o 5, .obj 1 23 3 false false [[.str (seenL s i), .str ⟨#[]⟩, .bool false]])]) (fun i => s.size - i) (fun i => i ≤ s.size ∧ (seen s i = true → slash s + 1 = (i : Int))) 0 rfl ⟨Nat.zero_le _, fun q => by rw [seen_zero] at q; cases q⟩ ?_ ?_
  · set_option maxRecDepth 100000 in simp (maxSteps := 10000000) only [go_sem, Nat.reduceAdd, Nat.reduceSub, Nat.reduceMul, Nat.reduceLT, Nat.reduceLeDiff, Nat.reduceEqDiff, Nat.reduceMod, Nat.reduceDiv, Int.reduceNeg, Int.reduceLE, Int.reduceLT, Int.reduceToNat, Int.reduceEq, Int.reduceNe, ↓reduceIte,  seenA_f (seen_zero s), seenL_f (seen_zero s), Int.natCast_zero, Int.ofNat_zero]
  rintro c' st' hst i ⟨hi, hI⟩ ih
  refine Classical.byCases (fun hs : seen s i = false => ?_) fun hs => ?_
  · have hik : i ≤ k := by
      rw [seen, Bool.and_eq_false_iff, decide_eq_false_iff_not, decide_eq_false_iff_not] at hs; omega
    have hlt : i < s.size := by omega
    refine Classical.byCases (fun hbk : byteAt s i = 47 => ?_) fun hbk => ?_
    · have hn := seen_now hlt hs hbk
      have hik2 : i = k := by omega
      subst hik2
      set_option maxRecDepth 100000 in simp (maxSteps := 10000000) only [go_sem, Nat.reduceAdd, Nat.reduceSub, Nat.reduceMul, Nat.reduceLT, Nat.reduceLeDiff, Nat.reduceEqDiff, Nat.reduceMod, Nat.reduceDiv, Int.reduceNeg, Int.reduceLE, Int.reduceLT, Int.reduceToNat, Int.reduceEq, Int.reduceNe, ↓reduceIte,  hlt, seenA_f hs, seenL_f hs, hbk, decide_true, Int.natCast_nonneg, Int.toNat_natCast, Int.toNat_zero, Int.le_refl, show (i : Int) ≤ (s.size : Int) by omega, wrap_succ (show i < 9223372036854775807 by omega)]
      refine ih (i + 1) _ ⟨by omega, fun _ => by omega⟩ (by omega) ?_
      set_option maxRecDepth 100000 in simp (maxSteps := 10000000) only [go_sem, Nat.reduceAdd, Nat.reduceSub, Nat.reduceMul, Nat.reduceLT, Nat.reduceLeDiff, Nat.reduceEqDiff, Nat.reduceMod, Nat.reduceDiv, Int.reduceNeg, Int.reduceLE, Int.reduceLT, Int.reduceToNat, Int.reduceEq, Int.reduceNe, ↓reduceIte,  seenA_t hn.2, seenL_t hn.2, hk, hA]
      try (first | rfl | omega)
    · have hn := seen_not hs hbk
      have hlt2 : i < k := by
        rcases Nat.lt_or_ge i k with q | q
        · exact q
        · have : i = k := by omega
          subst this; exact absurd (slash_byte hk) hbk
      set_option maxRecDepth 100000 in simp (maxSteps := 10000000) only [go_sem, Nat.reduceAdd, Nat.reduceSub, Nat.reduceMul, Nat.reduceLT, Nat.reduceLeDiff, Nat.reduceEqDiff, Nat.reduceMod, Nat.reduceDiv, Int.reduceNeg, Int.reduceLE, Int.reduceLT, Int.reduceToNat, Int.reduceEq, Int.reduceNe, ↓reduceIte,  hlt, seenA_f hs, seenL_f hs, hbk, decide_true, decide_false, Int.natCast_nonneg, Int.toNat_natCast, wrap_succ (show i < 9223372036854775807 by omega)]
      refine ih (i + 1) _ ⟨by omega, fun q => by rw [hn] at q; cases q⟩ (by omega) ?_
      set_option maxRecDepth 100000 in simp (maxSteps := 10000000) only [go_sem, Nat.reduceAdd, Nat.reduceSub, Nat.reduceMul, Nat.reduceLT, Nat.reduceLeDiff, Nat.reduceEqDiff, Nat.reduceMod, Nat.reduceDiv, Int.reduceNeg, Int.reduceLE, Int.reduceLT, Int.reduceToNat, Int.reduceEq, Int.reduceNe, ↓reduceIte,  seenA_f hn, seenL_f hn]
  have hs2 : seen s i = true := by simpa using hs
  have hi2 := hI hs2
  have hik : i = k + 1 := by omega
  subst hik
  subst hst
  have hne : ¬ (((k : Int) + 1) = 0) := by omega
  have hpo : (0 : Int) < ((k : Int) + 1) := by omega
  have hto : ((k : Int) + 1).toNat = k + 1 := by omega
  have hle : ((k : Int) + 1) ≤ (s.size : Int) := by omega
  have hge : (0 : Int) ≤ ((k : Int) + 1) := by omega
  set_option maxRecDepth 100000 in simp (maxSteps := 10000000) only [go_sem, Nat.reduceAdd, Nat.reduceSub, Nat.reduceMul, Nat.reduceLT, Nat.reduceLeDiff, Nat.reduceEqDiff, Nat.reduceMod, Nat.reduceDiv, Int.reduceNeg, Int.reduceLE, Int.reduceLT, Int.reduceToNat, Int.reduceEq, Int.reduceNe, ↓reduceIte,  seenA_t hs2, seenL_t hs2, hk]
  refine ifI (fun hl => ?_) fun hl => ?_
  all_goals
    set_option maxRecDepth 100000 in simp (maxSteps := 10000000) only [go_sem, Nat.reduceAdd, Nat.reduceSub, Nat.reduceMul, Nat.reduceLT, Nat.reduceLeDiff, Nat.reduceEqDiff, Nat.reduceMod, Nat.reduceDiv, Int.reduceNeg, Int.reduceLE, Int.reduceLT, Int.reduceToNat, Int.reduceEq, Int.reduceNe, ↓reduceIte,  hl, hne, hpo, decide_true, decide_false]
    refine call_of (s1) ?_
    set_option maxRecDepth 100000 in simp (maxSteps := 10000000) only [go_sem, Nat.reduceAdd, Nat.reduceSub, Nat.reduceMul, Nat.reduceLT, Nat.reduceLeDiff, Nat.reduceEqDiff, Nat.reduceMod, Nat.reduceDiv, Int.reduceNeg, Int.reduceLE, Int.reduceLT, Int.reduceToNat, Int.reduceEq, Int.reduceNe, ↓reduceIte,  Bool.not_false]
    refine call_of (m1) ?_
    set_option maxRecDepth 100000 in simp (maxSteps := 10000000) only [go_sem, Nat.reduceAdd, Nat.reduceSub, Nat.reduceMul, Nat.reduceLT, Nat.reduceLeDiff, Nat.reduceEqDiff, Nat.reduceMod, Nat.reduceDiv, Int.reduceNeg, Int.reduceLE, Int.reduceLT, Int.reduceToNat, Int.reduceEq, Int.reduceNe, ↓reduceIte,  Bool.not_true, hto, hle, hge, hB, Int.le_refl]
    refine ifI (fun hz => ?_) fun hz => ?_
    case' refine_1 =>
      have hz1 : 0 < (cutB s).size := by omega
      have hz2 : (0 : Int) ≤ (((cutB s).size - 1 : Nat) : Int) := by omega
      have hz3 : (cutB s).size - 1 < (cutB s).size := by omega
      have hz4 := star_f hb hz1
      set_option maxRecDepth 100000 in simp (maxSteps := 10000000) only [go_sem, Nat.reduceAdd, Nat.reduceSub, Nat.reduceMul, Nat.reduceLT, Nat.reduceLeDiff, Nat.reduceEqDiff, Nat.reduceMod, Nat.reduceDiv, Int.reduceNeg, Int.reduceLE, Int.reduceLT, Int.reduceToNat, Int.reduceEq, Int.reduceNe, ↓reduceIte,  hz, hz1, hz2, hz3, hz4, decide_true, decide_false, wrap_pred hz1 (show (cutB s).size ≤ 9223372036854775807 by omega), Int.toNat_natCast]
    case' refine_2 =>
      set_option maxRecDepth 100000 in simp (maxSteps := 10000000) only [go_sem, Nat.reduceAdd, Nat.reduceSub, Nat.reduceMul, Nat.reduceLT, Nat.reduceLeDiff, Nat.reduceEqDiff, Nat.reduceMod, Nat.reduceDiv, Int.reduceNeg, Int.reduceLE, Int.reduceLT, Int.reduceToNat, Int.reduceEq, Int.reduceNe, ↓reduceIte,  hz, decide_false]
    all_goals
      refine call_of (m2) ?_
      set_option maxRecDepth 100000 in simp (maxSteps := 10000000) only [go_sem, Nat.reduceAdd, Nat.reduceSub, Nat.reduceMul, Nat.reduceLT, Nat.reduceLeDiff, Nat.reduceEqDiff, Nat.reduceMod, Nat.reduceDiv, Int.reduceNeg, Int.reduceLE, Int.reduceLT, Int.reduceToNat, Int.reduceEq, Int.reduceNe, ↓reduceIte,  Bool.not_false]
      try omega
set_option maxHeartbeats 8000000 in
theorem RP_b {s : ByteArray} (h : s.size ≤ 1000000) (h0' : decide (s = ⟨#[]⟩) = false) (hF : cutF s = true) (k1 : isSp (cutA s) = false) (k2 : isNm (cutA s) = false) : RP s := by
  unfold RP
  have hR : parseE s = (zeroQ, 0, 7) := by
    rw [parseE_eq (of_decide_eq_false h0'), pRest, pLib]
    rw [if_pos hF, if_pos hF]
    rw [if_pos ⟨hF, k1, k2⟩]
  rw [hR]
  have hsl := slash_le s
  have hN1 := IsName_good
  have hS1 := RefSpecial_good
  have hF2 := of_decide_eq_true hF
  obtain ⟨k, hk⟩ : ∃ k : Nat, slash s = (k : Int) := ⟨(slash s).toNat, by omega⟩
  have hks : k < s.size := by omega
  have hA : s.extract 0 k = cutA s := by rw [cutA, if_pos hF2, hk, Int.toNat_natCast]
  have hB : s.extract (k + 1) s.size = cutB s := by rw [cutB, if_pos hF2, hk, Int.toNat_natCast]
  have hBs := cutB_size s
  have s1 := hS1 (cutA s)
  have m1 := hN1 (cutA s)
  rw [k1] at s1
  rw [k2] at m1
  refine good_run [(6, [13, 14, 15, 16, 17, 18, 19, 20, 21, 22, 23, 24, 25, 26, 27, 28, 29, 30, 31, 32], [])] mixed Try.func16 rfl Try.ntmps16 (rs := [.cell 2 23, .tmp 3, .tmp 4]) rfl (by decide +kernel) (by kernel_rfl) rfl ?_
  rw [startE_eq 79 _ _ _ rfl rfl]
  set_option maxRecDepth 100000 in simp (maxSteps := 10000000) only [go_sem, Nat.reduceAdd, Nat.reduceSub, Nat.reduceMul, Nat.reduceLT, Nat.reduceLeDiff, Nat.reduceEqDiff, Nat.reduceMod, Nat.reduceDiv, Int.reduceNeg, Int.reduceLE, Int.reduceLT, Int.reduceToNat, Int.reduceEq, Int.reduceNe, ↓reduceIte,  h0']
  refine loop_by ([13, 14, 15, 16, 17, 18, 19, 20, 21, 22, 23, 24, 25, 26, 27, 28, 29, 30, 31, 32], []) (fun i : Nat => [(.s 6, .int .i64 (seenA s i)), (.s 7, .int .i64 (i : Int)), (.o 5, .obj 1 23 3 false false [[.str (seenL s i), .str ⟨#[]⟩, .bool false]])]) (fun i => s.size - i) (fun i => i ≤ s.size ∧ (seen s i = true → slash s + 1 = (i : Int))) 0 rfl ⟨Nat.zero_le _, fun q => by rw [seen_zero] at q; cases q⟩ ?_ ?_
  · set_option maxRecDepth 100000 in simp (maxSteps := 10000000) only [go_sem, Nat.reduceAdd, Nat.reduceSub, Nat.reduceMul, Nat.reduceLT, Nat.reduceLeDiff, Nat.reduceEqDiff, Nat.reduceMod, Nat.reduceDiv, Int.reduceNeg, Int.reduceLE, Int.reduceLT, Int.reduceToNat, Int.reduceEq, Int.reduceNe, ↓reduceIte,  seenA_f (seen_zero s), seenL_f (seen_zero s), Int.natCast_zero, Int.ofNat_zero]
  rintro c' st' hst i ⟨hi, hI⟩ ih
  refine Classical.byCases (fun hs : seen s i = false => ?_) fun hs => ?_
  · have hik : i ≤ k := by
      rw [seen, Bool.and_eq_false_iff, decide_eq_false_iff_not, decide_eq_false_iff_not] at hs; omega
    have hlt : i < s.size := by omega
    refine Classical.byCases (fun hbk : byteAt s i = 47 => ?_) fun hbk => ?_
    · have hn := seen_now hlt hs hbk
      have hik2 : i = k := by omega
      subst hik2
      set_option maxRecDepth 100000 in simp (maxSteps := 10000000) only [go_sem, Nat.reduceAdd, Nat.reduceSub, Nat.reduceMul, Nat.reduceLT, Nat.reduceLeDiff, Nat.reduceEqDiff, Nat.reduceMod, Nat.reduceDiv, Int.reduceNeg, Int.reduceLE, Int.reduceLT, Int.reduceToNat, Int.reduceEq, Int.reduceNe, ↓reduceIte,  hlt, seenA_f hs, seenL_f hs, hbk, decide_true, Int.natCast_nonneg, Int.toNat_natCast, Int.toNat_zero, Int.le_refl, show (i : Int) ≤ (s.size : Int) by omega, wrap_succ (show i < 9223372036854775807 by omega)]
      refine ih (i + 1) _ ⟨by omega, fun _ => by omega⟩ (by omega) ?_
      set_option maxRecDepth 100000 in simp (maxSteps := 10000000) only [go_sem, Nat.reduceAdd, Nat.reduceSub, Nat.reduceMul, Nat.reduceLT, Nat.reduceLeDiff, Nat.reduceEqDiff, Nat.reduceMod, Nat.reduceDiv, Int.reduceNeg, Int.reduceLE, Int.reduceLT, Int.reduceToNat, Int.reduceEq, Int.reduceNe, ↓reduceIte,  seenA_t hn.2, seenL_t hn.2, hk, hA]
      try (first | rfl | omega)
    · have hn := seen_not hs hbk
      have hlt2 : i < k := by
        rcases Nat.lt_or_ge i k with q | q
        · exact q
        · have : i = k := by omega
          subst this; exact absurd (slash_byte hk) hbk
      set_option maxRecDepth 100000 in simp (maxSteps := 10000000) only [go_sem, Nat.reduceAdd, Nat.reduceSub, Nat.reduceMul, Nat.reduceLT, Nat.reduceLeDiff, Nat.reduceEqDiff, Nat.reduceMod, Nat.reduceDiv, Int.reduceNeg, Int.reduceLE, Int.reduceLT, Int.reduceToNat, Int.reduceEq, Int.reduceNe, ↓reduceIte,  hlt, seenA_f hs, seenL_f hs, hbk, decide_true, decide_false, Int.natCast_nonneg, Int.toNat_natCast, wrap_succ (show i < 9223372036854775807 by omega)]
      refine ih (i + 1) _ ⟨by omega, fun q => by rw [hn] at q; cases q⟩ (by omega) ?_
      set_option maxRecDepth 100000 in simp (maxSteps := 10000000) only [go_sem, Nat.reduceAdd, Nat.reduceSub, Nat.reduceMul, Nat.reduceLT, Nat.reduceLeDiff, Nat.reduceEqDiff, Nat.reduceMod, Nat.reduceDiv, Int.reduceNeg, Int.reduceLE, Int.reduceLT, Int.reduceToNat, Int.reduceEq, Int.reduceNe, ↓reduceIte,  seenA_f hn, seenL_f hn]
  have hs2 : seen s i = true := by simpa using hs
  have hi2 := hI hs2
  have hik : i = k + 1 := by omega
  subst hik
  subst hst
  have hne : ¬ (((k : Int) + 1) = 0) := by omega
  have hpo : (0 : Int) < ((k : Int) + 1) := by omega
  have hto : ((k : Int) + 1).toNat = k + 1 := by omega
  have hle : ((k : Int) + 1) ≤ (s.size : Int) := by omega
  have hge : (0 : Int) ≤ ((k : Int) + 1) := by omega
  set_option maxRecDepth 100000 in simp (maxSteps := 10000000) only [go_sem, Nat.reduceAdd, Nat.reduceSub, Nat.reduceMul, Nat.reduceLT, Nat.reduceLeDiff, Nat.reduceEqDiff, Nat.reduceMod, Nat.reduceDiv, Int.reduceNeg, Int.reduceLE, Int.reduceLT, Int.reduceToNat, Int.reduceEq, Int.reduceNe, ↓reduceIte,  seenA_t hs2, seenL_t hs2, hk]
  refine ifI (fun hl => ?_) fun hl => ?_
  all_goals
    set_option maxRecDepth 100000 in simp (maxSteps := 10000000) only [go_sem, Nat.reduceAdd, Nat.reduceSub, Nat.reduceMul, Nat.reduceLT, Nat.reduceLeDiff, Nat.reduceEqDiff, Nat.reduceMod, Nat.reduceDiv, Int.reduceNeg, Int.reduceLE, Int.reduceLT, Int.reduceToNat, Int.reduceEq, Int.reduceNe, ↓reduceIte,  hl, hne, hpo, decide_true, decide_false]
    refine call_of (s1) ?_
    set_option maxRecDepth 100000 in simp (maxSteps := 10000000) only [go_sem, Nat.reduceAdd, Nat.reduceSub, Nat.reduceMul, Nat.reduceLT, Nat.reduceLeDiff, Nat.reduceEqDiff, Nat.reduceMod, Nat.reduceDiv, Int.reduceNeg, Int.reduceLE, Int.reduceLT, Int.reduceToNat, Int.reduceEq, Int.reduceNe, ↓reduceIte,  Bool.not_false]
    refine call_of (m1) ?_
    set_option maxRecDepth 100000 in simp (maxSteps := 10000000) only [go_sem, Nat.reduceAdd, Nat.reduceSub, Nat.reduceMul, Nat.reduceLT, Nat.reduceLeDiff, Nat.reduceEqDiff, Nat.reduceMod, Nat.reduceDiv, Int.reduceNeg, Int.reduceLE, Int.reduceLT, Int.reduceToNat, Int.reduceEq, Int.reduceNe, ↓reduceIte,  Bool.not_false]
set_option maxHeartbeats 8000000 in
theorem RP_n11 {s : ByteArray} (h : s.size ≤ 1000000) (h0' : decide (s = ⟨#[]⟩) = false) (hF : cutF s = false) (hb : starB (s) = true) (k3 : isNm (starN (s)) = true) : RP s := by
  unfold RP
  have hR : parseE s = (⟨⟨#[]⟩, starN (s), true⟩, 0, 0) := by
    rw [parseE_eq (of_decide_eq_false h0'), pRest, pLib]
    rw [if_neg (show ¬ cutF s = true by rw [hF]; decide), if_neg (show ¬ cutF s = true by rw [hF]; decide)]
    rw [if_neg (fun q => by rw [hF] at q; cases q.1)]
    rw [if_neg (by rw [k3]; decide), hb]
  rw [hR]
  have hsl := slash_le s
  have hN1 := IsName_good
  have hS1 := RefSpecial_good
  have hnz : slash s = -1 := by have := of_decide_eq_false hF; omega
  have m2 := hN1 (starN (s))
  rw [k3] at m2
  have hbs := (star_t hb).1
  have hbs1 := (star_t hb).2
  have hbs2 : (0 : Int) < ((s).size : Int) := by omega
  have hbs3 : (0 : Int) ≤ (((s).size - 1 : Nat) : Int) := by omega
  have hbs4 : (s).size - 1 < (s).size := by omega
  have hbs5 : (((s).size - 1 : Nat) : Int) ≤ ((s).size : Int) := by omega
  have hN := starN_t hb
  refine good_run [(6, [13, 14, 15, 16, 17, 18, 19, 20, 21, 22, 23, 24, 25, 26, 27, 28, 29, 30, 31, 32], [])] mixed Try.func16 rfl Try.ntmps16 (rs := [.cell 2 23, .tmp 3, .tmp 4]) rfl (by decide +kernel) (by kernel_rfl) rfl ?_
  rw [startE_eq 79 _ _ _ rfl rfl]
  set_option maxRecDepth 100000 in simp (maxSteps := 10000000) only [go_sem, Nat.reduceAdd, Nat.reduceSub, Nat.reduceMul, Nat.reduceLT, Nat.reduceLeDiff, Nat.reduceEqDiff, Nat.reduceMod, Nat.reduceDiv, Int.reduceNeg, Int.reduceLE, Int.reduceLT, Int.reduceToNat, Int.reduceEq, Int.reduceNe, ↓reduceIte,  h0']
  refine loop_by ([13, 14, 15, 16, 17, 18, 19, 20, 21, 22, 23, 24, 25, 26, 27, 28, 29, 30, 31, 32], []) (fun i : Nat => [(.s 6, .int .i64 (seenA s i)), (.s 7, .int .i64 (i : Int)), (.o 5, .obj 1 23 3 false false [[.str (seenL s i), .str ⟨#[]⟩, .bool false]])]) (fun i => s.size - i) (fun i => i ≤ s.size ∧ (seen s i = true → slash s + 1 = (i : Int))) 0 rfl ⟨Nat.zero_le _, fun q => by rw [seen_zero] at q; cases q⟩ ?_ ?_
  · set_option maxRecDepth 100000 in simp (maxSteps := 10000000) only [go_sem, Nat.reduceAdd, Nat.reduceSub, Nat.reduceMul, Nat.reduceLT, Nat.reduceLeDiff, Nat.reduceEqDiff, Nat.reduceMod, Nat.reduceDiv, Int.reduceNeg, Int.reduceLE, Int.reduceLT, Int.reduceToNat, Int.reduceEq, Int.reduceNe, ↓reduceIte,  seenA_f (seen_zero s), seenL_f (seen_zero s), Int.natCast_zero, Int.ofNat_zero]
  rintro c' st' hst i ⟨hi, hI⟩ ih
  have hs := seen_none hF i
  set_option maxRecDepth 100000 in simp (maxSteps := 10000000) only [go_sem, Nat.reduceAdd, Nat.reduceSub, Nat.reduceMul, Nat.reduceLT, Nat.reduceLeDiff, Nat.reduceEqDiff, Nat.reduceMod, Nat.reduceDiv, Int.reduceNeg, Int.reduceLE, Int.reduceLT, Int.reduceToNat, Int.reduceEq, Int.reduceNe, ↓reduceIte,  seenA_f hs, seenL_f hs]
  refine ifI (fun hl => ?_) fun hl => ?_
  · have hlt : i < s.size := by omega
    have hbk := no_slash hF hlt
    have hn := seen_none hF (i + 1)
    set_option maxRecDepth 100000 in simp (maxSteps := 10000000) only [go_sem, Nat.reduceAdd, Nat.reduceSub, Nat.reduceMul, Nat.reduceLT, Nat.reduceLeDiff, Nat.reduceEqDiff, Nat.reduceMod, Nat.reduceDiv, Int.reduceNeg, Int.reduceLE, Int.reduceLT, Int.reduceToNat, Int.reduceEq, Int.reduceNe, ↓reduceIte,  hl, hlt, hbk, decide_true, decide_false, Int.natCast_nonneg, Int.toNat_natCast, wrap_succ (show i < 9223372036854775807 by omega)]
    refine ih (i + 1) _ ⟨by omega, fun q => by rw [hn] at q; cases q⟩ (by omega) ?_
    set_option maxRecDepth 100000 in simp (maxSteps := 10000000) only [go_sem, Nat.reduceAdd, Nat.reduceSub, Nat.reduceMul, Nat.reduceLT, Nat.reduceLeDiff, Nat.reduceEqDiff, Nat.reduceMod, Nat.reduceDiv, Int.reduceNeg, Int.reduceLE, Int.reduceLT, Int.reduceToNat, Int.reduceEq, Int.reduceNe, ↓reduceIte,  seenA_f hn, seenL_f hn]
  subst hst
  set_option maxRecDepth 100000 in simp (maxSteps := 10000000) only [go_sem, Nat.reduceAdd, Nat.reduceSub, Nat.reduceMul, Nat.reduceLT, Nat.reduceLeDiff, Nat.reduceEqDiff, Nat.reduceMod, Nat.reduceDiv, Int.reduceNeg, Int.reduceLE, Int.reduceLT, Int.reduceToNat, Int.reduceEq, Int.reduceNe, ↓reduceIte,  hl, decide_true, decide_false, Int.lt_irrefl, Int.toNat_zero, Int.le_refl, Int.natCast_nonneg, Int.toNat_natCast, extract_all]
  set_option maxRecDepth 100000 in simp (maxSteps := 10000000) only [go_sem, Nat.reduceAdd, Nat.reduceSub, Nat.reduceMul, Nat.reduceLT, Nat.reduceLeDiff, Nat.reduceEqDiff, Nat.reduceMod, Nat.reduceDiv, Int.reduceNeg, Int.reduceLE, Int.reduceLT, Int.reduceToNat, Int.reduceEq, Int.reduceNe, ↓reduceIte,  hbs1, hbs2, hbs3, hbs4, hbs5, decide_true, wrap_pred hbs (show s.size ≤ 9223372036854775807 by omega), Int.toNat_natCast, Int.le_refl, Int.toNat_zero, hN]
  refine call_of (m2) ?_
  set_option maxRecDepth 100000 in simp (maxSteps := 10000000) only [go_sem, Nat.reduceAdd, Nat.reduceSub, Nat.reduceMul, Nat.reduceLT, Nat.reduceLeDiff, Nat.reduceEqDiff, Nat.reduceMod, Nat.reduceDiv, Int.reduceNeg, Int.reduceLE, Int.reduceLT, Int.reduceToNat, Int.reduceEq, Int.reduceNe, ↓reduceIte,  Bool.not_true]
set_option maxHeartbeats 8000000 in
theorem RP_n10 {s : ByteArray} (h : s.size ≤ 1000000) (h0' : decide (s = ⟨#[]⟩) = false) (hF : cutF s = false) (hb : starB (s) = true) (k3 : isNm (starN (s)) = false) : RP s := by
  unfold RP
  have hR : parseE s = (zeroQ, slash s + 1, 7) := by
    rw [parseE_eq (of_decide_eq_false h0'), pRest, pLib]
    rw [if_neg (show ¬ cutF s = true by rw [hF]; decide), if_neg (show ¬ cutF s = true by rw [hF]; decide)]
    rw [if_neg (fun q => by rw [hF] at q; cases q.1)]
    rw [if_pos k3]
  rw [hR]
  have hsl := slash_le s
  have hN1 := IsName_good
  have hS1 := RefSpecial_good
  have hnz : slash s = -1 := by have := of_decide_eq_false hF; omega
  have m2 := hN1 (starN (s))
  rw [k3] at m2
  have hbs := (star_t hb).1
  have hbs1 := (star_t hb).2
  have hbs2 : (0 : Int) < ((s).size : Int) := by omega
  have hbs3 : (0 : Int) ≤ (((s).size - 1 : Nat) : Int) := by omega
  have hbs4 : (s).size - 1 < (s).size := by omega
  have hbs5 : (((s).size - 1 : Nat) : Int) ≤ ((s).size : Int) := by omega
  have hN := starN_t hb
  refine good_run [(6, [13, 14, 15, 16, 17, 18, 19, 20, 21, 22, 23, 24, 25, 26, 27, 28, 29, 30, 31, 32], [])] mixed Try.func16 rfl Try.ntmps16 (rs := [.cell 2 23, .tmp 3, .tmp 4]) rfl (by decide +kernel) (by kernel_rfl) rfl ?_
  rw [startE_eq 79 _ _ _ rfl rfl]
  set_option maxRecDepth 100000 in simp (maxSteps := 10000000) only [go_sem, Nat.reduceAdd, Nat.reduceSub, Nat.reduceMul, Nat.reduceLT, Nat.reduceLeDiff, Nat.reduceEqDiff, Nat.reduceMod, Nat.reduceDiv, Int.reduceNeg, Int.reduceLE, Int.reduceLT, Int.reduceToNat, Int.reduceEq, Int.reduceNe, ↓reduceIte,  h0']
  refine loop_by ([13, 14, 15, 16, 17, 18, 19, 20, 21, 22, 23, 24, 25, 26, 27, 28, 29, 30, 31, 32], []) (fun i : Nat => [(.s 6, .int .i64 (seenA s i)), (.s 7, .int .i64 (i : Int)), (.o 5, .obj 1 23 3 false false [[.str (seenL s i), .str ⟨#[]⟩, .bool false]])]) (fun i => s.size - i) (fun i => i ≤ s.size ∧ (seen s i = true → slash s + 1 = (i : Int))) 0 rfl ⟨Nat.zero_le _, fun q => by rw [seen_zero] at q; cases q⟩ ?_ ?_
  · set_option maxRecDepth 100000 in simp (maxSteps := 10000000) only [go_sem, Nat.reduceAdd, Nat.reduceSub, Nat.reduceMul, Nat.reduceLT, Nat.reduceLeDiff, Nat.reduceEqDiff, Nat.reduceMod, Nat.reduceDiv, Int.reduceNeg, Int.reduceLE, Int.reduceLT, Int.reduceToNat, Int.reduceEq, Int.reduceNe, ↓reduceIte,  seenA_f (seen_zero s), seenL_f (seen_zero s), Int.natCast_zero, Int.ofNat_zero]
  rintro c' st' hst i ⟨hi, hI⟩ ih
  have hs := seen_none hF i
  set_option maxRecDepth 100000 in simp (maxSteps := 10000000) only [go_sem, Nat.reduceAdd, Nat.reduceSub, Nat.reduceMul, Nat.reduceLT, Nat.reduceLeDiff, Nat.reduceEqDiff, Nat.reduceMod, Nat.reduceDiv, Int.reduceNeg, Int.reduceLE, Int.reduceLT, Int.reduceToNat, Int.reduceEq, Int.reduceNe, ↓reduceIte,  seenA_f hs, seenL_f hs]
  refine ifI (fun hl => ?_) fun hl => ?_
  · have hlt : i < s.size := by omega
    have hbk := no_slash hF hlt
    have hn := seen_none hF (i + 1)
    set_option maxRecDepth 100000 in simp (maxSteps := 10000000) only [go_sem, Nat.reduceAdd, Nat.reduceSub, Nat.reduceMul, Nat.reduceLT, Nat.reduceLeDiff, Nat.reduceEqDiff, Nat.reduceMod, Nat.reduceDiv, Int.reduceNeg, Int.reduceLE, Int.reduceLT, Int.reduceToNat, Int.reduceEq, Int.reduceNe, ↓reduceIte,  hl, hlt, hbk, decide_true, decide_false, Int.natCast_nonneg, Int.toNat_natCast, wrap_succ (show i < 9223372036854775807 by omega)]
    refine ih (i + 1) _ ⟨by omega, fun q => by rw [hn] at q; cases q⟩ (by omega) ?_
    set_option maxRecDepth 100000 in simp (maxSteps := 10000000) only [go_sem, Nat.reduceAdd, Nat.reduceSub, Nat.reduceMul, Nat.reduceLT, Nat.reduceLeDiff, Nat.reduceEqDiff, Nat.reduceMod, Nat.reduceDiv, Int.reduceNeg, Int.reduceLE, Int.reduceLT, Int.reduceToNat, Int.reduceEq, Int.reduceNe, ↓reduceIte,  seenA_f hn, seenL_f hn]
  subst hst
  set_option maxRecDepth 100000 in simp (maxSteps := 10000000) only [go_sem, Nat.reduceAdd, Nat.reduceSub, Nat.reduceMul, Nat.reduceLT, Nat.reduceLeDiff, Nat.reduceEqDiff, Nat.reduceMod, Nat.reduceDiv, Int.reduceNeg, Int.reduceLE, Int.reduceLT, Int.reduceToNat, Int.reduceEq, Int.reduceNe, ↓reduceIte,  hl, decide_true, decide_false, Int.lt_irrefl, Int.toNat_zero, Int.le_refl, Int.natCast_nonneg, Int.toNat_natCast, extract_all]
  set_option maxRecDepth 100000 in simp (maxSteps := 10000000) only [go_sem, Nat.reduceAdd, Nat.reduceSub, Nat.reduceMul, Nat.reduceLT, Nat.reduceLeDiff, Nat.reduceEqDiff, Nat.reduceMod, Nat.reduceDiv, Int.reduceNeg, Int.reduceLE, Int.reduceLT, Int.reduceToNat, Int.reduceEq, Int.reduceNe, ↓reduceIte,  hbs1, hbs2, hbs3, hbs4, hbs5, decide_true, wrap_pred hbs (show s.size ≤ 9223372036854775807 by omega), Int.toNat_natCast, Int.le_refl, Int.toNat_zero, hN]
  refine call_of (m2) ?_
  set_option maxRecDepth 100000 in simp (maxSteps := 10000000) only [go_sem, Nat.reduceAdd, Nat.reduceSub, Nat.reduceMul, Nat.reduceLT, Nat.reduceLeDiff, Nat.reduceEqDiff, Nat.reduceMod, Nat.reduceDiv, Int.reduceNeg, Int.reduceLE, Int.reduceLT, Int.reduceToNat, Int.reduceEq, Int.reduceNe, ↓reduceIte,  Bool.not_false]
  try omega
set_option maxHeartbeats 8000000 in
theorem RP_n01 {s : ByteArray} (h : s.size ≤ 1000000) (h0' : decide (s = ⟨#[]⟩) = false) (hF : cutF s = false) (hb : starB (s) = false) (k3 : isNm (starN (s)) = true) : RP s := by
  unfold RP
  have hR : parseE s = (⟨⟨#[]⟩, starN (s), false⟩, 0, 0) := by
    rw [parseE_eq (of_decide_eq_false h0'), pRest, pLib]
    rw [if_neg (show ¬ cutF s = true by rw [hF]; decide), if_neg (show ¬ cutF s = true by rw [hF]; decide)]
    rw [if_neg (fun q => by rw [hF] at q; cases q.1)]
    rw [if_neg (by rw [k3]; decide), hb]
  rw [hR]
  have hsl := slash_le s
  have hN1 := IsName_good
  have hS1 := RefSpecial_good
  have hnz : slash s = -1 := by have := of_decide_eq_false hF; omega
  have m2 := hN1 (starN (s))
  rw [k3] at m2
  have hNf := starN_f hb
  rw [hNf] at m2
  refine good_run [(6, [13, 14, 15, 16, 17, 18, 19, 20, 21, 22, 23, 24, 25, 26, 27, 28, 29, 30, 31, 32], [])] mixed Try.func16 rfl Try.ntmps16 (rs := [.cell 2 23, .tmp 3, .tmp 4]) rfl (by decide +kernel) (by kernel_rfl) rfl ?_
  rw [startE_eq 79 _ _ _ rfl rfl]
  set_option maxRecDepth 100000 in simp (maxSteps := 10000000) only [go_sem, Nat.reduceAdd, Nat.reduceSub, Nat.reduceMul, Nat.reduceLT, Nat.reduceLeDiff, Nat.reduceEqDiff, Nat.reduceMod, Nat.reduceDiv, Int.reduceNeg, Int.reduceLE, Int.reduceLT, Int.reduceToNat, Int.reduceEq, Int.reduceNe, ↓reduceIte,  h0']
  refine loop_by ([13, 14, 15, 16, 17, 18, 19, 20, 21, 22, 23, 24, 25, 26, 27, 28, 29, 30, 31, 32], []) (fun i : Nat => [(.s 6, .int .i64 (seenA s i)), (.s 7, .int .i64 (i : Int)), (.o 5, .obj 1 23 3 false false [[.str (seenL s i), .str ⟨#[]⟩, .bool false]])]) (fun i => s.size - i) (fun i => i ≤ s.size ∧ (seen s i = true → slash s + 1 = (i : Int))) 0 rfl ⟨Nat.zero_le _, fun q => by rw [seen_zero] at q; cases q⟩ ?_ ?_
  · set_option maxRecDepth 100000 in simp (maxSteps := 10000000) only [go_sem, Nat.reduceAdd, Nat.reduceSub, Nat.reduceMul, Nat.reduceLT, Nat.reduceLeDiff, Nat.reduceEqDiff, Nat.reduceMod, Nat.reduceDiv, Int.reduceNeg, Int.reduceLE, Int.reduceLT, Int.reduceToNat, Int.reduceEq, Int.reduceNe, ↓reduceIte,  seenA_f (seen_zero s), seenL_f (seen_zero s), Int.natCast_zero, Int.ofNat_zero]
  rintro c' st' hst i ⟨hi, hI⟩ ih
  have hs := seen_none hF i
  set_option maxRecDepth 100000 in simp (maxSteps := 10000000) only [go_sem, Nat.reduceAdd, Nat.reduceSub, Nat.reduceMul, Nat.reduceLT, Nat.reduceLeDiff, Nat.reduceEqDiff, Nat.reduceMod, Nat.reduceDiv, Int.reduceNeg, Int.reduceLE, Int.reduceLT, Int.reduceToNat, Int.reduceEq, Int.reduceNe, ↓reduceIte,  seenA_f hs, seenL_f hs]
  refine ifI (fun hl => ?_) fun hl => ?_
  · have hlt : i < s.size := by omega
    have hbk := no_slash hF hlt
    have hn := seen_none hF (i + 1)
    set_option maxRecDepth 100000 in simp (maxSteps := 10000000) only [go_sem, Nat.reduceAdd, Nat.reduceSub, Nat.reduceMul, Nat.reduceLT, Nat.reduceLeDiff, Nat.reduceEqDiff, Nat.reduceMod, Nat.reduceDiv, Int.reduceNeg, Int.reduceLE, Int.reduceLT, Int.reduceToNat, Int.reduceEq, Int.reduceNe, ↓reduceIte,  hl, hlt, hbk, decide_true, decide_false, Int.natCast_nonneg, Int.toNat_natCast, wrap_succ (show i < 9223372036854775807 by omega)]
    refine ih (i + 1) _ ⟨by omega, fun q => by rw [hn] at q; cases q⟩ (by omega) ?_
    set_option maxRecDepth 100000 in simp (maxSteps := 10000000) only [go_sem, Nat.reduceAdd, Nat.reduceSub, Nat.reduceMul, Nat.reduceLT, Nat.reduceLeDiff, Nat.reduceEqDiff, Nat.reduceMod, Nat.reduceDiv, Int.reduceNeg, Int.reduceLE, Int.reduceLT, Int.reduceToNat, Int.reduceEq, Int.reduceNe, ↓reduceIte,  seenA_f hn, seenL_f hn]
  subst hst
  set_option maxRecDepth 100000 in simp (maxSteps := 10000000) only [go_sem, Nat.reduceAdd, Nat.reduceSub, Nat.reduceMul, Nat.reduceLT, Nat.reduceLeDiff, Nat.reduceEqDiff, Nat.reduceMod, Nat.reduceDiv, Int.reduceNeg, Int.reduceLE, Int.reduceLT, Int.reduceToNat, Int.reduceEq, Int.reduceNe, ↓reduceIte,  hl, decide_true, decide_false, Int.lt_irrefl, Int.toNat_zero, Int.le_refl, Int.natCast_nonneg, Int.toNat_natCast, extract_all]
  refine ifI (fun hz => ?_) fun hz => ?_
  case' refine_1 =>
    have hz1 : 0 < s.size := by omega
    have hz2 : (0 : Int) ≤ ((s.size - 1 : Nat) : Int) := by omega
    have hz3 : s.size - 1 < s.size := by omega
    have hz4 := star_f hb hz1
    set_option maxRecDepth 100000 in simp (maxSteps := 10000000) only [go_sem, Nat.reduceAdd, Nat.reduceSub, Nat.reduceMul, Nat.reduceLT, Nat.reduceLeDiff, Nat.reduceEqDiff, Nat.reduceMod, Nat.reduceDiv, Int.reduceNeg, Int.reduceLE, Int.reduceLT, Int.reduceToNat, Int.reduceEq, Int.reduceNe, ↓reduceIte,  hz, hz1, hz2, hz3, hz4, decide_true, decide_false, wrap_pred hz1 (show s.size ≤ 9223372036854775807 by omega), Int.toNat_natCast]
  case' refine_2 =>
    set_option maxRecDepth 100000 in simp (maxSteps := 10000000) only [go_sem, Nat.reduceAdd, Nat.reduceSub, Nat.reduceMul, Nat.reduceLT, Nat.reduceLeDiff, Nat.reduceEqDiff, Nat.reduceMod, Nat.reduceDiv, Int.reduceNeg, Int.reduceLE, Int.reduceLT, Int.reduceToNat, Int.reduceEq, Int.reduceNe, ↓reduceIte,  hz, decide_false]
  all_goals
    refine call_of (m2) ?_
    set_option maxRecDepth 100000 in simp (maxSteps := 10000000) only [go_sem, Nat.reduceAdd, Nat.reduceSub, Nat.reduceMul, Nat.reduceLT, Nat.reduceLeDiff, Nat.reduceEqDiff, Nat.reduceMod, Nat.reduceDiv, Int.reduceNeg, Int.reduceLE, Int.reduceLT, Int.reduceToNat, Int.reduceEq, Int.reduceNe, ↓reduceIte,  Bool.not_true]
    try simp [hNf]
set_option maxHeartbeats 8000000 in
theorem RP_n00 {s : ByteArray} (h : s.size ≤ 1000000) (h0' : decide (s = ⟨#[]⟩) = false) (hF : cutF s = false) (hb : starB (s) = false) (k3 : isNm (starN (s)) = false) : RP s := by
  unfold RP
  have hR : parseE s = (zeroQ, slash s + 1, 7) := by
    rw [parseE_eq (of_decide_eq_false h0'), pRest, pLib]
    rw [if_neg (show ¬ cutF s = true by rw [hF]; decide), if_neg (show ¬ cutF s = true by rw [hF]; decide)]
    rw [if_neg (fun q => by rw [hF] at q; cases q.1)]
    rw [if_pos k3]
  rw [hR]
  have hsl := slash_le s
  have hN1 := IsName_good
  have hS1 := RefSpecial_good
  have hnz : slash s = -1 := by have := of_decide_eq_false hF; omega
  have m2 := hN1 (starN (s))
  rw [k3] at m2
  have hNf := starN_f hb
  rw [hNf] at m2
  refine good_run [(6, [13, 14, 15, 16, 17, 18, 19, 20, 21, 22, 23, 24, 25, 26, 27, 28, 29, 30, 31, 32], [])] mixed Try.func16 rfl Try.ntmps16 (rs := [.cell 2 23, .tmp 3, .tmp 4]) rfl (by decide +kernel) (by kernel_rfl) rfl ?_
  rw [startE_eq 79 _ _ _ rfl rfl]
  set_option maxRecDepth 100000 in simp (maxSteps := 10000000) only [go_sem, Nat.reduceAdd, Nat.reduceSub, Nat.reduceMul, Nat.reduceLT, Nat.reduceLeDiff, Nat.reduceEqDiff, Nat.reduceMod, Nat.reduceDiv, Int.reduceNeg, Int.reduceLE, Int.reduceLT, Int.reduceToNat, Int.reduceEq, Int.reduceNe, ↓reduceIte,  h0']
  refine loop_by ([13, 14, 15, 16, 17, 18, 19, 20, 21, 22, 23, 24, 25, 26, 27, 28, 29, 30, 31, 32], []) (fun i : Nat => [(.s 6, .int .i64 (seenA s i)), (.s 7, .int .i64 (i : Int)), (.o 5, .obj 1 23 3 false false [[.str (seenL s i), .str ⟨#[]⟩, .bool false]])]) (fun i => s.size - i) (fun i => i ≤ s.size ∧ (seen s i = true → slash s + 1 = (i : Int))) 0 rfl ⟨Nat.zero_le _, fun q => by rw [seen_zero] at q; cases q⟩ ?_ ?_
  · set_option maxRecDepth 100000 in simp (maxSteps := 10000000) only [go_sem, Nat.reduceAdd, Nat.reduceSub, Nat.reduceMul, Nat.reduceLT, Nat.reduceLeDiff, Nat.reduceEqDiff, Nat.reduceMod, Nat.reduceDiv, Int.reduceNeg, Int.reduceLE, Int.reduceLT, Int.reduceToNat, Int.reduceEq, Int.reduceNe, ↓reduceIte,  seenA_f (seen_zero s), seenL_f (seen_zero s), Int.natCast_zero, Int.ofNat_zero]
  rintro c' st' hst i ⟨hi, hI⟩ ih
  have hs := seen_none hF i
  set_option maxRecDepth 100000 in simp (maxSteps := 10000000) only [go_sem, Nat.reduceAdd, Nat.reduceSub, Nat.reduceMul, Nat.reduceLT, Nat.reduceLeDiff, Nat.reduceEqDiff, Nat.reduceMod, Nat.reduceDiv, Int.reduceNeg, Int.reduceLE, Int.reduceLT, Int.reduceToNat, Int.reduceEq, Int.reduceNe, ↓reduceIte,  seenA_f hs, seenL_f hs]
  refine ifI (fun hl => ?_) fun hl => ?_
  · have hlt : i < s.size := by omega
    have hbk := no_slash hF hlt
    have hn := seen_none hF (i + 1)
    set_option maxRecDepth 100000 in simp (maxSteps := 10000000) only [go_sem, Nat.reduceAdd, Nat.reduceSub, Nat.reduceMul, Nat.reduceLT, Nat.reduceLeDiff, Nat.reduceEqDiff, Nat.reduceMod, Nat.reduceDiv, Int.reduceNeg, Int.reduceLE, Int.reduceLT, Int.reduceToNat, Int.reduceEq, Int.reduceNe, ↓reduceIte,  hl, hlt, hbk, decide_true, decide_false, Int.natCast_nonneg, Int.toNat_natCast, wrap_succ (show i < 9223372036854775807 by omega)]
    refine ih (i + 1) _ ⟨by omega, fun q => by rw [hn] at q; cases q⟩ (by omega) ?_
    set_option maxRecDepth 100000 in simp (maxSteps := 10000000) only [go_sem, Nat.reduceAdd, Nat.reduceSub, Nat.reduceMul, Nat.reduceLT, Nat.reduceLeDiff, Nat.reduceEqDiff, Nat.reduceMod, Nat.reduceDiv, Int.reduceNeg, Int.reduceLE, Int.reduceLT, Int.reduceToNat, Int.reduceEq, Int.reduceNe, ↓reduceIte,  seenA_f hn, seenL_f hn]
  subst hst
  set_option maxRecDepth 100000 in simp (maxSteps := 10000000) only [go_sem, Nat.reduceAdd, Nat.reduceSub, Nat.reduceMul, Nat.reduceLT, Nat.reduceLeDiff, Nat.reduceEqDiff, Nat.reduceMod, Nat.reduceDiv, Int.reduceNeg, Int.reduceLE, Int.reduceLT, Int.reduceToNat, Int.reduceEq, Int.reduceNe, ↓reduceIte,  hl, decide_true, decide_false, Int.lt_irrefl, Int.toNat_zero, Int.le_refl, Int.natCast_nonneg, Int.toNat_natCast, extract_all]
  refine ifI (fun hz => ?_) fun hz => ?_
  case' refine_1 =>
    have hz1 : 0 < s.size := by omega
    have hz2 : (0 : Int) ≤ ((s.size - 1 : Nat) : Int) := by omega
    have hz3 : s.size - 1 < s.size := by omega
    have hz4 := star_f hb hz1
    set_option maxRecDepth 100000 in simp (maxSteps := 10000000) only [go_sem, Nat.reduceAdd, Nat.reduceSub, Nat.reduceMul, Nat.reduceLT, Nat.reduceLeDiff, Nat.reduceEqDiff, Nat.reduceMod, Nat.reduceDiv, Int.reduceNeg, Int.reduceLE, Int.reduceLT, Int.reduceToNat, Int.reduceEq, Int.reduceNe, ↓reduceIte,  hz, hz1, hz2, hz3, hz4, decide_true, decide_false, wrap_pred hz1 (show s.size ≤ 9223372036854775807 by omega), Int.toNat_natCast]
  case' refine_2 =>
    set_option maxRecDepth 100000 in simp (maxSteps := 10000000) only [go_sem, Nat.reduceAdd, Nat.reduceSub, Nat.reduceMul, Nat.reduceLT, Nat.reduceLeDiff, Nat.reduceEqDiff, Nat.reduceMod, Nat.reduceDiv, Int.reduceNeg, Int.reduceLE, Int.reduceLT, Int.reduceToNat, Int.reduceEq, Int.reduceNe, ↓reduceIte,  hz, decide_false]
  all_goals
    refine call_of (m2) ?_
    set_option maxRecDepth 100000 in simp (maxSteps := 10000000) only [go_sem, Nat.reduceAdd, Nat.reduceSub, Nat.reduceMul, Nat.reduceLT, Nat.reduceLeDiff, Nat.reduceEqDiff, Nat.reduceMod, Nat.reduceDiv, Int.reduceNeg, Int.reduceLE, Int.reduceLT, Int.reduceToNat, Int.reduceEq, Int.reduceNe, ↓reduceIte,  Bool.not_false]
    try omega

theorem RefParse_good (s : ByteArray) (h : s.size ≤ 1000000) : RP s := by
  by_cases h0 : decide (s = ⟨#[]⟩) = true
  · unfold RP
    rw [parseE, if_pos (of_decide_eq_true h0)]
    refine good_run [(6, [13, 14, 15, 16, 17, 18, 19, 20, 21, 22, 23, 24, 25, 26, 27, 28, 29, 30, 31, 32], [])] mixed Try.func16 rfl Try.ntmps16 (rs := [.cell 2 23, .tmp 3, .tmp 4]) rfl (by decide +kernel) (by kernel_rfl) rfl ?_
    rw [startE_eq 79 _ _ _ rfl rfl]
    set_option maxRecDepth 100000 in simp (maxSteps := 10000000) only [go_sem, Nat.reduceAdd, Nat.reduceSub, Nat.reduceMul, Nat.reduceLT, Nat.reduceLeDiff, Nat.reduceEqDiff, Nat.reduceMod, Nat.reduceDiv, Int.reduceNeg, Int.reduceLE, Int.reduceLT, Int.reduceToNat, Int.reduceEq, Int.reduceNe, ↓reduceIte,  h0]
  have h0' := Bool.eq_false_iff.2 h0
  cases hF : cutF s
  · cases hb : starB (s)
    · cases k3 : isNm (starN (s))
      · exact RP_n00 h h0' hF hb k3
      · exact RP_n01 h h0' hF hb k3
    · cases k3 : isNm (starN (s))
      · exact RP_n10 h h0' hF hb k3
      · exact RP_n11 h h0' hF hb k3
  cases k1 : isSp (cutA s)
  · cases k2 : isNm (cutA s)
    · exact RP_b h h0' hF k1 k2
    · cases hb : starB (cutB s)
      · cases k3 : isNm (starN (cutB s))
        · exact RP_q00 h h0' hF k1 k2 hb k3
        · exact RP_q01 h h0' hF k1 k2 hb k3
      · cases k3 : isNm (starN (cutB s))
        · exact RP_q10 h h0' hF k1 k2 hb k3
        · exact RP_q11 h h0' hF k1 k2 hb k3
  · cases hb : starB (cutB s)
    · cases k3 : isNm (starN (cutB s))
      · exact RP_p00 h h0' hF k1 hb k3
      · exact RP_p01 h h0' hF k1 hb k3
    · cases k3 : isNm (starN (cutB s))
      · exact RP_p10 h h0' hF k1 hb k3
      · exact RP_p11 h h0' hF k1 hb k3
end Go.Proofs.Ytppjmigiogddpaa.C08
