
import Derived.Test.YtppjmigiogddpaaGreatE8
namespace Go.Proofs.YtppjmigiogddpaaGreat.C08
open Go Go.Proofs Go.Proofs.YtppjmigiogddpaaGreat.Ab
set_option linter.unusedSimpArgs false
set_option linter.unusedVariables false
attribute [local congr] ite_ctx

theorem scanI_all {f : Nat → Int} : ∀ (k i : Nat), (scanI f k i).2 = 0 → ∀ j, i ≤ j → j < i + k → f j = 0
  | 0, i, _, j, h1, h2 => by omega
  | k + 1, i, h, j, h1, h2 => by
    rw [scanI] at h
    split at h
    · rename_i h0
      by_cases hj : j = i
      · rw [hj]; exact h0
      · exact scanI_all k (i + 1) h j (by omega) (by omega)
    · rename_i h0; exact absurd h h0
/-- In a right list each library is a name, and there. -/
theorem listE_all {d : Dir} {l : LList} (h : (listE d l).2 = 0) {i : Nat} (hi : i < (l.system ++ l.user).length) : listI d (l.system ++ l.user) i = 0 := by
  rw [listE] at h
  split at h
  · rename_i q; exact absurd h q
  split at h
  · cases h
  split at h
  · rename_i q
    exact scanI_all _ 0 q i (Nat.zero_le _) (by omega)
  · rename_i q; exact absurd h q
theorem listI_lib {d : Dir} {all : List ByteArray} {i : Nat} (h : listI d all i = 0) : libE d.objects (nth all i) = 0 := by
  rw [listI] at h
  split at h
  · rename_i q; exact absurd h q
  · rename_i q; exact Classical.not_not.1 q
theorem libE_ne {l : List Obj} {s : ByteArray} (h : libE l s = 0) : ¬ s = ⟨#[]⟩ := fun q => by
  subst q
  rw [libE, if_pos (by decide +kernel)] at h
  cases h
theorem nth_append_right {α : Type} [Inhabited α] (a b : List α) (i : Nat) (h : i < b.length) : nth (a ++ b) (a.length + i) = nth b i := by
  rw [nth_eq (by rw [List.length_append]; omega), nth_eq h, List.getElem_append_right (by omega)]
  congr 1; omega
theorem user_ne {d : Dir} {l : LList} (h : (listE d l).2 = 0) {i : Nat} (hi : i < l.user.length) : ¬ nth l.user i = ⟨#[]⟩ := by
  have := listE_all h (i := l.system.length + i) (by rw [List.length_append]; omega)
  have h2 := libE_ne (listI_lib this)
  rwa [nth_append_right _ _ _ hi] at h2
theorem ixS_none (l : List ByteArray) (s : ByteArray) : (ixS l s = -1) ↔ (l.any fun p => decide (p = s)) = false := by
  have h1 := findIx_ge (fun p : ByteArray => decide (p = s)) l 0
  have h2 := ixS_any l s
  unfold ixS at h2 ⊢
  rw [← h2, decide_eq_false_iff_not]
  omega

set_option maxHeartbeats 8000000 in
theorem Strings_good (a b : List ByteArray) (h : a.length ≤ 1000000) : Ans Tryz.prog 35 [.sl (a.map encStr), .sl (b.map encStr)] (.bool (decide (a = b))) := by
  refine Classical.byCases (fun hl : a.length = b.length => ?_) fun hl => ?_
  case refine_2 =>
    rw [decide_eq_false (fun q => hl (by rw [q]))]
    refine good_run [(4, [4, 11, 12, 13, 14, 15, 16, 17, 18, 19, 20, 21, 22, 23, 24, 25], [])] mixed Tryz.func35 rfl Tryz.ntmps35 (rs := [.tmp 4]) rfl (by decide +kernel) (by kernel_rfl) rfl ?_
    rw [startE_eq 26 _ _ _ rfl rfl]
    set_option maxRecDepth 100000 in simp (maxSteps := 10000000) only [go_sem, Nat.reduceAdd, Nat.reduceSub, Nat.reduceMul, Nat.reduceLT, Nat.reduceLeDiff, Nat.reduceEqDiff, Nat.reduceMod, Nat.reduceDiv, Int.reduceNeg, Int.reduceLE, Int.reduceLT, Int.reduceToNat, Int.reduceEq, Int.reduceNe, ↓reduceIte,  show ¬ (a.length : Int) = (b.length : Int) by omega, not_false_eq_true, decide_true]
  refine good_run [(4, [4, 11, 12, 13, 14, 15, 16, 17, 18, 19, 20, 21, 22, 23, 24, 25], [])] mixed Tryz.func35 rfl Tryz.ntmps35 (rs := [.tmp 4]) rfl (by decide +kernel) (by kernel_rfl) rfl ?_
  rw [startE_eq 26 _ _ _ rfl rfl]
  set_option maxRecDepth 100000 in simp (maxSteps := 10000000) only [go_sem, Nat.reduceAdd, Nat.reduceSub, Nat.reduceMul, Nat.reduceLT, Nat.reduceLeDiff, Nat.reduceEqDiff, Nat.reduceMod, Nat.reduceDiv, Int.reduceNeg, Int.reduceLE, Int.reduceLT, Int.reduceToNat, Int.reduceEq, Int.reduceNe, ↓reduceIte,  show (a.length : Int) = (b.length : Int) by omega, not_true_eq_false, decide_false]
  refine loop_by ([4, 11, 12, 13, 14, 15, 16, 17, 18, 19, 20, 21, 22, 23, 24, 25], []) (fun i : Nat => [(.s 5, .int .i64 (i : Int))]) (fun i => a.length - i) (fun i => i ≤ a.length ∧ a.take i = b.take i) 0 rfl ⟨Nat.zero_le _, rfl⟩ rfl ?_
  rintro c' st' hst i ⟨hi, hf⟩ ih
  set_option maxRecDepth 100000 in simp (maxSteps := 10000000) only [go_sem, Nat.reduceAdd, Nat.reduceSub, Nat.reduceMul, Nat.reduceLT, Nat.reduceLeDiff, Nat.reduceEqDiff, Nat.reduceMod, Nat.reduceDiv, Int.reduceNeg, Int.reduceLE, Int.reduceLT, Int.reduceToNat, Int.reduceEq, Int.reduceNe, ↓reduceIte]
  refine ifI (fun hlt => ?_) fun hlt => ?_
  case refine_2 =>
    have : a = b := by
      rw [← List.take_length (l := a), ← List.take_length (l := b)]
      have e : i = a.length := by omega
      rw [← hl, ← e]; exact hf
    subst hst
    rw [decide_eq_true this]
    set_option maxRecDepth 100000 in simp (maxSteps := 10000000) only [go_sem, Nat.reduceAdd, Nat.reduceSub, Nat.reduceMul, Nat.reduceLT, Nat.reduceLeDiff, Nat.reduceEqDiff, Nat.reduceMod, Nat.reduceDiv, Int.reduceNeg, Int.reduceLE, Int.reduceLT, Int.reduceToNat, Int.reduceEq, Int.reduceNe, ↓reduceIte,  hlt]
  have hlt' : i < a.length := by omega
  have hlt2 : i < b.length := by omega
  set_option maxRecDepth 100000 in simp (maxSteps := 10000000) only [go_sem, Nat.reduceAdd, Nat.reduceSub, Nat.reduceMul, Nat.reduceLT, Nat.reduceLeDiff, Nat.reduceEqDiff, Nat.reduceMod, Nat.reduceDiv, Int.reduceNeg, Int.reduceLE, Int.reduceLT, Int.reduceToNat, Int.reduceEq, Int.reduceNe, ↓reduceIte,  hlt, hlt', hlt2]
  refine ⟨by decide +kernel, ?_⟩
  refine ifI (fun hn => ?_) fun hn => ?_
  · have hn' : ¬ nth a i = nth b i := by simpa using hn
    rw [decide_eq_false (fun q => hn' (by rw [q]))]
    set_option maxRecDepth 100000 in simp (maxSteps := 10000000) only [go_sem, Nat.reduceAdd, Nat.reduceSub, Nat.reduceMul, Nat.reduceLT, Nat.reduceLeDiff, Nat.reduceEqDiff, Nat.reduceMod, Nat.reduceDiv, Int.reduceNeg, Int.reduceLE, Int.reduceLT, Int.reduceToNat, Int.reduceEq, Int.reduceNe, ↓reduceIte]
  · have hn' : nth a i = nth b i := by simpa using hn
    set_option maxRecDepth 100000 in simp (maxSteps := 10000000) only [go_sem, Nat.reduceAdd, Nat.reduceSub, Nat.reduceMul, Nat.reduceLT, Nat.reduceLeDiff, Nat.reduceEqDiff, Nat.reduceMod, Nat.reduceDiv, Int.reduceNeg, Int.reduceLE, Int.reduceLT, Int.reduceToNat, Int.reduceEq, Int.reduceNe, ↓reduceIte]
    refine ih (i + 1) _ ⟨by omega, ?_⟩ (by omega) ?_
    · rw [take_snoc' hlt', take_snoc' hlt2, hf, hn']
    · set_option maxRecDepth 100000 in simp (maxSteps := 10000000) only [go_sem, Nat.reduceAdd, Nat.reduceSub, Nat.reduceMul, Nat.reduceLT, Nat.reduceLeDiff, Nat.reduceEqDiff, Nat.reduceMod, Nat.reduceDiv, Int.reduceNeg, Int.reduceLE, Int.reduceLT, Int.reduceToNat, Int.reduceEq, Int.reduceNe, ↓reduceIte,  wrap_succ (show i < 9223372036854775807 by omega)]

end Go.Proofs.YtppjmigiogddpaaGreat.C08
