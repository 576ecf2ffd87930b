/- Chapter 9: the statements' limits and their first example. -/
import Derived.Test.YtppjmigiogddpaaE9
namespace Go.Proofs.Ytppjmigiogddpaa.C08
open Go Go.Proofs Go.Proofs.Ytppjmigiogddpaa.Ab
set_option linter.unusedSimpArgs false
set_option linter.unusedVariables false
attribute [local congr] ite_ctx

theorem Own_good (d : Dir) (h : d.objects.length ≤ 1000000) : Ans Try.prog 19 [.agg (encDir d)] (.agg (encDir d)) := by
  refine good_run [] mixed Try.func19 rfl Try.ntmps19 (rs := [.cell 2 38]) rfl (by decide +kernel) (by kernel_rfl) rfl ?_
  rw [startE_eq 9 _ _ _ rfl rfl]
  set_option maxRecDepth 100000 in simp (maxSteps := 10000000) only [go_sem, Nat.reduceAdd, Nat.reduceSub, Nat.reduceMul, Nat.reduceLT, Nat.reduceLeDiff, Nat.reduceEqDiff, Nat.reduceMod, Nat.reduceDiv, Int.reduceNeg, Int.reduceLE, Int.reduceLT, Int.reduceToNat, Int.reduceEq, Int.reduceNe, ↓reduceIte,  List.length_map, show (d.objects.length) * 96 ≤ 140737488355328 by omega, show d.objects.length ≤ maxLen by unfold maxLen; omega]
  decide +kernel
theorem OwnL_good (l : LList) (h1 : l.system.length ≤ 1000) (h2 : l.user.length ≤ 1000) : Ans Try.prog 20 [.agg (encLL l)] (.agg (encLL l)) := by
  have c1 := Copy_good l.system (by omega)
  have c2 := Copy_good l.user (by omega)
  refine good_run [] mixed Try.func20 rfl Try.ntmps20 (rs := [.cell 2 41]) rfl (by decide +kernel) (by kernel_rfl) rfl ?_
  rw [startE_eq 12 _ _ _ rfl rfl]
  set_option maxRecDepth 100000 in simp (maxSteps := 10000000) only [go_sem, Nat.reduceAdd, Nat.reduceSub, Nat.reduceMul, Nat.reduceLT, Nat.reduceLeDiff, Nat.reduceEqDiff, Nat.reduceMod, Nat.reduceDiv, Int.reduceNeg, Int.reduceLE, Int.reduceLT, Int.reduceToNat, Int.reduceEq, Int.reduceNe, ↓reduceIte]
  refine callD_of (c1) ?_
  set_option maxRecDepth 100000 in simp (maxSteps := 10000000) only [go_sem, Nat.reduceAdd, Nat.reduceSub, Nat.reduceMul, Nat.reduceLT, Nat.reduceLeDiff, Nat.reduceEqDiff, Nat.reduceMod, Nat.reduceDiv, Int.reduceNeg, Int.reduceLE, Int.reduceLT, Int.reduceToNat, Int.reduceEq, Int.reduceNe, ↓reduceIte]
  refine callD_of (c2) ?_
  set_option maxRecDepth 100000 in simp (maxSteps := 10000000) only [go_sem, Nat.reduceAdd, Nat.reduceSub, Nat.reduceMul, Nat.reduceLT, Nat.reduceLeDiff, Nat.reduceEqDiff, Nat.reduceMod, Nat.reduceDiv, Int.reduceNeg, Int.reduceLE, Int.reduceLT, Int.reduceToNat, Int.reduceEq, Int.reduceNe, ↓reduceIte]
  decide +kernel

def fewN (n : OName) : Bool := decide (n.lib.size ≤ 100) && decide (n.name.size ≤ 100)
theorem sz_le (s : ByteArray) (k : Nat) : decide ((s.size : Int) ≤ (k : Int)) = decide (s.size ≤ k) := by rw [decide_eq_decide]; omega
theorem fewName_good (n : OName) : Ans Try.prog 75 [.agg (encOName n)] (.bool (fewN n)) := by
  refine good_run [] mixed Try.func75 rfl Try.ntmps75 (rs := [.tmp 2]) rfl (by decide +kernel) (by kernel_rfl) rfl ?_
  rw [startE_eq 13 _ _ _ rfl rfl]
  set_option maxRecDepth 100000 in simp (maxSteps := 10000000) only [go_sem, Nat.reduceAdd, Nat.reduceSub, Nat.reduceMul, Nat.reduceLT, Nat.reduceLeDiff, Nat.reduceEqDiff, Nat.reduceMod, Nat.reduceDiv, Int.reduceNeg, Int.reduceLE, Int.reduceLT, Int.reduceToNat, Int.reduceEq, Int.reduceNe, ↓reduceIte]
  refine ifI (fun h1 => ?_) fun h1 => ?_
  · set_option maxRecDepth 100000 in simp (maxSteps := 10000000) only [go_sem, Nat.reduceAdd, Nat.reduceSub, Nat.reduceMul, Nat.reduceLT, Nat.reduceLeDiff, Nat.reduceEqDiff, Nat.reduceMod, Nat.reduceDiv, Int.reduceNeg, Int.reduceLE, Int.reduceLT, Int.reduceToNat, Int.reduceEq, Int.reduceNe, ↓reduceIte,  h1]
    rw [fewN, show decide (n.lib.size ≤ 100) = true from decide_eq_true (by omega), Bool.true_and, ← sz_le]; rfl
  · set_option maxRecDepth 100000 in simp (maxSteps := 10000000) only [go_sem, Nat.reduceAdd, Nat.reduceSub, Nat.reduceMul, Nat.reduceLT, Nat.reduceLeDiff, Nat.reduceEqDiff, Nat.reduceMod, Nat.reduceDiv, Int.reduceNeg, Int.reduceLE, Int.reduceLT, Int.reduceToNat, Int.reduceEq, Int.reduceNe, ↓reduceIte,  h1]
    rw [fewN, show decide (n.lib.size ≤ 100) = false from decide_eq_false (by omega), Bool.false_and]
def fewQ (q : QName) : Bool := decide (q.lib.size ≤ 100) && decide (q.name.size ≤ 100)
theorem fewRequest_good (q : QName) : Ans Try.prog 11 [.agg (encQ q)] (.bool (fewQ q)) := by
  refine good_run [] mixed Try.func11 rfl Try.ntmps11 (rs := [.tmp 2]) rfl (by decide +kernel) (by kernel_rfl) rfl ?_
  rw [startE_eq 13 _ _ _ rfl rfl]
  set_option maxRecDepth 100000 in simp (maxSteps := 10000000) only [go_sem, Nat.reduceAdd, Nat.reduceSub, Nat.reduceMul, Nat.reduceLT, Nat.reduceLeDiff, Nat.reduceEqDiff, Nat.reduceMod, Nat.reduceDiv, Int.reduceNeg, Int.reduceLE, Int.reduceLT, Int.reduceToNat, Int.reduceEq, Int.reduceNe, ↓reduceIte]
  refine ifI (fun h1 => ?_) fun h1 => ?_
  · set_option maxRecDepth 100000 in simp (maxSteps := 10000000) only [go_sem, Nat.reduceAdd, Nat.reduceSub, Nat.reduceMul, Nat.reduceLT, Nat.reduceLeDiff, Nat.reduceEqDiff, Nat.reduceMod, Nat.reduceDiv, Int.reduceNeg, Int.reduceLE, Int.reduceLT, Int.reduceToNat, Int.reduceEq, Int.reduceNe, ↓reduceIte,  h1]
    rw [fewQ, show decide (q.lib.size ≤ 100) = true from decide_eq_true (by omega), Bool.true_and, ← sz_le]; rfl
  · set_option maxRecDepth 100000 in simp (maxSteps := 10000000) only [go_sem, Nat.reduceAdd, Nat.reduceSub, Nat.reduceMul, Nat.reduceLT, Nat.reduceLeDiff, Nat.reduceEqDiff, Nat.reduceMod, Nat.reduceDiv, Int.reduceNeg, Int.reduceLE, Int.reduceLT, Int.reduceToNat, Int.reduceEq, Int.reduceNe, ↓reduceIte,  h1]
    rw [fewQ, show decide (q.lib.size ≤ 100) = false from decide_eq_false (by omega), Bool.false_and]
theorem fewQ_sz {q : QName} (h : fewQ q = true) : q.lib.size ≤ 100 ∧ q.name.size ≤ 100 := by
  rw [fewQ, Bool.and_eq_true, decide_eq_true_eq, decide_eq_true_eq] at h; exact h

def fewO (o : Obj) : Bool := fewN o.name && decide (o.owner.size ≤ 100) && decide (o.text.size ≤ 300) && decide (o.content.size ≤ 600)
theorem fewO_iff (o : Obj) : fewO o = true ↔ fewN o.name = true ∧ o.owner.size ≤ 100 ∧ o.text.size ≤ 300 ∧ o.content.size ≤ 600 := by
  rw [fewO, Bool.and_eq_true, Bool.and_eq_true, Bool.and_eq_true, decide_eq_true_eq, decide_eq_true_eq, decide_eq_true_eq]
  constructor
  · rintro ⟨⟨⟨a, b⟩, c⟩, d⟩; exact ⟨a, b, c, d⟩
  · rintro ⟨a, b, c, d⟩; exact ⟨⟨⟨a, b⟩, c⟩, d⟩
theorem all_nth {α : Type} [Inhabited α] (l : List α) (p : α → Bool) : l.all p = true ↔ ∀ j, j < l.length → p (nth l j) = true := by
  rw [List.all_eq_true]
  constructor
  · intro h j hj; exact h _ (nth_mem hj)
  · intro h x hx
    obtain ⟨i, hi, rfl⟩ := List.getElem_of_mem hx
    have := h i hi
    rwa [nth_eq hi] at this
theorem all_not {α : Type} [Inhabited α] {l : List α} {p : α → Bool} {i : Nat} (h : i < l.length) (hp : p (nth l i) = false) : l.all p = false := by
  rw [Bool.eq_false_iff]; intro h2
  rw [(all_nth l p).1 h2 i h] at hp; cases hp
def fewD (d : Dir) : Bool := decide (d.objects.length < 44) && d.objects.all fewO
theorem fewD_len {d : Dir} (h : fewD d = true) : d.objects.length ≤ 1000000 := by
  rw [fewD, Bool.and_eq_true, decide_eq_true_eq] at h; omega
theorem few_end {α : Type} [Inhabited α] {l : List α} {p : α → Bool} {i : Nat} (hi : i ≤ l.length) (hp : ∀ j, j < i → p (nth l j) = true) (h : ¬ ((i : Int) < (l.length : Int)) ∨ ¬ ((i : Int) < 44)) :
    decide ((l.length : Int) < 44) = (decide (l.length < 44) && l.all p) := by
  by_cases h2 : l.length < 44
  · have : l.all p = true := (all_nth l p).2 fun j hj => hp j (by omega)
    rw [this, decide_eq_true h2, decide_eq_true (by omega)]; rfl
  · rw [decide_eq_false h2, decide_eq_false (by omega)]; rfl

set_option maxHeartbeats 4000000 in
theorem fewDirectory_good (d : Dir) : Ans Try.prog 49 [.agg (encDir d)] (.bool (fewD d)) := by
  refine good_run [(2, [2, 4, 5, 6, 7, 8, 9, 10, 11, 12, 13, 14, 15, 16, 17, 18, 19, 20, 21, 22, 23, 24, 25, 26, 27, 28, 29, 30, 31, 32, 33, 34, 35, 36, 37, 38, 39, 40, 41, 42], [4, 4])] mixed Try.func49 rfl Try.ntmps49 (rs := [.tmp 2]) rfl (by decide +kernel) (by kernel_rfl) rfl ?_
  rw [startE_eq 47 _ _ _ rfl rfl]
  set_option maxRecDepth 100000 in simp (maxSteps := 10000000) only [go_sem, Nat.reduceAdd, Nat.reduceSub, Nat.reduceMul, Nat.reduceLT, Nat.reduceLeDiff, Nat.reduceEqDiff, Nat.reduceMod, Nat.reduceDiv, Int.reduceNeg, Int.reduceLE, Int.reduceLT, Int.reduceToNat, Int.reduceEq, Int.reduceNe, ↓reduceIte]
  refine loop_by ([2, 4, 5, 6, 7, 8, 9, 10, 11, 12, 13, 14, 15, 16, 17, 18, 19, 20, 21, 22, 23, 24, 25, 26, 27, 28, 29, 30, 31, 32, 33, 34, 35, 36, 37, 38, 39, 40, 41, 42], [4, 4]) (fun i : Nat => [(.s 3, .int .i64 (i : Int)), (.o 4, deadV i)]) (fun i => 45 - i) (fun i => i ≤ d.objects.length ∧ i ≤ 44 ∧ ∀ j, j < i → fewO (nth d.objects j) = true) 0 rfl ⟨Nat.zero_le _, Nat.zero_le _, fun j hj => absurd hj (Nat.not_lt_zero _)⟩ rfl ?_
  rintro c' st' hst i ⟨hi, hi2, hp⟩ ih
  set_option maxRecDepth 100000 in simp (maxSteps := 10000000) only [go_sem, Nat.reduceAdd, Nat.reduceSub, Nat.reduceMul, Nat.reduceLT, Nat.reduceLeDiff, Nat.reduceEqDiff, Nat.reduceMod, Nat.reduceDiv, Int.reduceNeg, Int.reduceLE, Int.reduceLT, Int.reduceToNat, Int.reduceEq, Int.reduceNe, ↓reduceIte]
  refine ifI (fun hlt => ?_) fun hlt => ?_
  · have hlt' : i < d.objects.length := by omega
    set_option maxRecDepth 100000 in simp (maxSteps := 10000000) only [go_sem, Nat.reduceAdd, Nat.reduceSub, Nat.reduceMul, Nat.reduceLT, Nat.reduceLeDiff, Nat.reduceEqDiff, Nat.reduceMod, Nat.reduceDiv, Int.reduceNeg, Int.reduceLE, Int.reduceLT, Int.reduceToNat, Int.reduceEq, Int.reduceNe, ↓reduceIte,  hlt]
    refine ifI (fun h2 => ?_) fun h2 => ?_
    · set_option maxRecDepth 100000 in simp (maxSteps := 10000000) only [go_sem, Nat.reduceAdd, Nat.reduceSub, Nat.reduceMul, Nat.reduceLT, Nat.reduceLeDiff, Nat.reduceEqDiff, Nat.reduceMod, Nat.reduceDiv, Int.reduceNeg, Int.reduceLE, Int.reduceLT, Int.reduceToNat, Int.reduceEq, Int.reduceNe, ↓reduceIte,  hlt, hlt']
      have fn := fewName_good (nth d.objects i).name
      refine Classical.byCases (fun h3 : fewO (nth d.objects i) = true => ?_) fun h3 => ?_
      · obtain ⟨a1, a2, a3, a4⟩ := (fewO_iff _).1 h3
        rw [a1] at fn
        refine call_of (fn) ?_
        set_option maxRecDepth 100000 in simp (maxSteps := 10000000) only [go_sem, Nat.reduceAdd, Nat.reduceSub, Nat.reduceMul, Nat.reduceLT, Nat.reduceLeDiff, Nat.reduceEqDiff, Nat.reduceMod, Nat.reduceDiv, Int.reduceNeg, Int.reduceLE, Int.reduceLT, Int.reduceToNat, Int.reduceEq, Int.reduceNe, ↓reduceIte,  Bool.not_true, show ¬ (100 : Int) < ((nth d.objects i).owner.size : Int) by omega, show ¬ (300 : Int) < ((nth d.objects i).text.size : Int) by omega, show ¬ (600 : Int) < ((nth d.objects i).content.size : Int) by omega, decide_false]
        refine ih (i + 1) _ ⟨by omega, by omega, fun j hj => ?_⟩ (by omega) ?_
        · rcases Nat.lt_or_ge j i with h | h
          · exact hp j h
          · rw [show j = i by omega]; exact h3
        · set_option maxRecDepth 100000 in simp (maxSteps := 10000000) only [go_sem, Nat.reduceAdd, Nat.reduceSub, Nat.reduceMul, Nat.reduceLT, Nat.reduceLeDiff, Nat.reduceEqDiff, Nat.reduceMod, Nat.reduceDiv, Int.reduceNeg, Int.reduceLE, Int.reduceLT, Int.reduceToNat, Int.reduceEq, Int.reduceNe, ↓reduceIte,  wrap_succ (show i < 9223372036854775807 by omega)]
      · have h4 : fewO (nth d.objects i) = false := Bool.eq_false_iff.2 h3
        have h5 : fewD d = false := by rw [fewD, all_not hlt' h4, Bool.and_false]
        rw [h5]
        cases a1 : fewN (nth d.objects i).name with
        | false =>
          rw [a1] at fn
          refine call_of (fn) ?_
          set_option maxRecDepth 100000 in simp (maxSteps := 10000000) only [go_sem, Nat.reduceAdd, Nat.reduceSub, Nat.reduceMul, Nat.reduceLT, Nat.reduceLeDiff, Nat.reduceEqDiff, Nat.reduceMod, Nat.reduceDiv, Int.reduceNeg, Int.reduceLE, Int.reduceLT, Int.reduceToNat, Int.reduceEq, Int.reduceNe, ↓reduceIte,  Bool.not_false]
        | true =>
          rw [a1] at fn
          refine call_of (fn) ?_
          set_option maxRecDepth 100000 in simp (maxSteps := 10000000) only [go_sem, Nat.reduceAdd, Nat.reduceSub, Nat.reduceMul, Nat.reduceLT, Nat.reduceLeDiff, Nat.reduceEqDiff, Nat.reduceMod, Nat.reduceDiv, Int.reduceNeg, Int.reduceLE, Int.reduceLT, Int.reduceToNat, Int.reduceEq, Int.reduceNe, ↓reduceIte,  Bool.not_true]
          refine ifI (fun a2 => ?_) fun a2 => ?_
          · have a2' : ¬ (100 : Int) < ((nth d.objects i).owner.size : Int) := by simpa using a2
            set_option maxRecDepth 100000 in simp (maxSteps := 10000000) only [go_sem, Nat.reduceAdd, Nat.reduceSub, Nat.reduceMul, Nat.reduceLT, Nat.reduceLeDiff, Nat.reduceEqDiff, Nat.reduceMod, Nat.reduceDiv, Int.reduceNeg, Int.reduceLE, Int.reduceLT, Int.reduceToNat, Int.reduceEq, Int.reduceNe, ↓reduceIte,  a2', decide_false]
            refine ifI (fun a3 => ?_) fun a3 => ?_
            · have a3' : ¬ (300 : Int) < ((nth d.objects i).text.size : Int) := by simpa using a3
              have a4 : (600 : Int) < ((nth d.objects i).content.size : Int) := by
                rcases Int.lt_or_le 600 ((nth d.objects i).content.size : Int) with z | z
                · exact z
                · exact absurd ((fewO_iff _).2 ⟨a1, by omega, by omega, by omega⟩) h3
              set_option maxRecDepth 100000 in simp (maxSteps := 10000000) only [go_sem, Nat.reduceAdd, Nat.reduceSub, Nat.reduceMul, Nat.reduceLT, Nat.reduceLeDiff, Nat.reduceEqDiff, Nat.reduceMod, Nat.reduceDiv, Int.reduceNeg, Int.reduceLE, Int.reduceLT, Int.reduceToNat, Int.reduceEq, Int.reduceNe, ↓reduceIte,  a3', a4, decide_true, decide_false]
            · have a3' : (300 : Int) < ((nth d.objects i).text.size : Int) := by simpa using a3
              set_option maxRecDepth 100000 in simp (maxSteps := 10000000) only [go_sem, Nat.reduceAdd, Nat.reduceSub, Nat.reduceMul, Nat.reduceLT, Nat.reduceLeDiff, Nat.reduceEqDiff, Nat.reduceMod, Nat.reduceDiv, Int.reduceNeg, Int.reduceLE, Int.reduceLT, Int.reduceToNat, Int.reduceEq, Int.reduceNe, ↓reduceIte,  a3', decide_true]
          · have a2' : (100 : Int) < ((nth d.objects i).owner.size : Int) := by simpa using a2
            set_option maxRecDepth 100000 in simp (maxSteps := 10000000) only [go_sem, Nat.reduceAdd, Nat.reduceSub, Nat.reduceMul, Nat.reduceLT, Nat.reduceLeDiff, Nat.reduceEqDiff, Nat.reduceMod, Nat.reduceDiv, Int.reduceNeg, Int.reduceLE, Int.reduceLT, Int.reduceToNat, Int.reduceEq, Int.reduceNe, ↓reduceIte,  a2', decide_true]
    · subst hst
      set_option maxRecDepth 100000 in simp (maxSteps := 10000000) only [go_sem, Nat.reduceAdd, Nat.reduceSub, Nat.reduceMul, Nat.reduceLT, Nat.reduceLeDiff, Nat.reduceEqDiff, Nat.reduceMod, Nat.reduceDiv, Int.reduceNeg, Int.reduceLE, Int.reduceLT, Int.reduceToNat, Int.reduceEq, Int.reduceNe, ↓reduceIte]
      exact few_end hi hp (.inr h2)
  · subst hst
    set_option maxRecDepth 100000 in simp (maxSteps := 10000000) only [go_sem, Nat.reduceAdd, Nat.reduceSub, Nat.reduceMul, Nat.reduceLT, Nat.reduceLeDiff, Nat.reduceEqDiff, Nat.reduceMod, Nat.reduceDiv, Int.reduceNeg, Int.reduceLE, Int.reduceLT, Int.reduceToNat, Int.reduceEq, Int.reduceNe, ↓reduceIte,  hlt]
    exact few_end hi hp (.inl (by omega))

def fewSs (l : List ByteArray) : Bool := decide (l.length ≤ 12) && l.all fun s => decide (s.size ≤ 100)
theorem fewSs_len {l : List ByteArray} (h : fewSs l = true) : l.length ≤ 12 := by
  rw [fewSs, Bool.and_eq_true, decide_eq_true_eq] at h; exact h.1
theorem few_end12 {α : Type} [Inhabited α] {l : List α} {p : α → Bool} {i : Nat} (hi : i ≤ l.length) (hp : ∀ j, j < i → p (nth l j) = true) (h : ¬ ((i : Int) < (l.length : Int)) ∨ ¬ ((i : Int) ≤ 12)) :
    decide ((l.length : Int) ≤ 12) = (decide (l.length ≤ 12) && l.all p) := by
  by_cases h2 : l.length ≤ 12
  · have : l.all p = true := (all_nth l p).2 fun j hj => hp j (by omega)
    rw [this, decide_eq_true h2, decide_eq_true (by omega)]; rfl
  · rw [decide_eq_false h2, decide_eq_false (by omega)]; rfl
theorem fewNames_good (l : List ByteArray) : Ans Try.prog 50 [.sl (l.map encStr)] (.bool (fewSs l)) := by
  refine good_run [(2, [2, 4, 5, 6, 7, 8, 9, 10, 11, 12, 13, 14, 15, 16, 17, 18, 19], [])] mixed Try.func50 rfl Try.ntmps50 (rs := [.tmp 2]) rfl (by decide +kernel) (by kernel_rfl) rfl ?_
  rw [startE_eq 23 _ _ _ rfl rfl]
  set_option maxRecDepth 100000 in simp (maxSteps := 10000000) only [go_sem, Nat.reduceAdd, Nat.reduceSub, Nat.reduceMul, Nat.reduceLT, Nat.reduceLeDiff, Nat.reduceEqDiff, Nat.reduceMod, Nat.reduceDiv, Int.reduceNeg, Int.reduceLE, Int.reduceLT, Int.reduceToNat, Int.reduceEq, Int.reduceNe, ↓reduceIte]
  refine loop_by ([2, 4, 5, 6, 7, 8, 9, 10, 11, 12, 13, 14, 15, 16, 17, 18, 19], []) (fun i : Nat => [(.s 3, .int .i64 (i : Int))]) (fun i => 14 - i) (fun i => i ≤ l.length ∧ i ≤ 13 ∧ ∀ j, j < i → decide ((nth l j).size ≤ 100) = true) 0 rfl ⟨Nat.zero_le _, Nat.zero_le _, fun j hj => absurd hj (Nat.not_lt_zero _)⟩ rfl ?_
  rintro c' st' hst i ⟨hi, hi2, hp⟩ ih
  set_option maxRecDepth 100000 in simp (maxSteps := 10000000) only [go_sem, Nat.reduceAdd, Nat.reduceSub, Nat.reduceMul, Nat.reduceLT, Nat.reduceLeDiff, Nat.reduceEqDiff, Nat.reduceMod, Nat.reduceDiv, Int.reduceNeg, Int.reduceLE, Int.reduceLT, Int.reduceToNat, Int.reduceEq, Int.reduceNe, ↓reduceIte]
  refine ifI (fun hlt => ?_) fun hlt => ?_
  · have hlt' : i < l.length := by omega
    set_option maxRecDepth 100000 in simp (maxSteps := 10000000) only [go_sem, Nat.reduceAdd, Nat.reduceSub, Nat.reduceMul, Nat.reduceLT, Nat.reduceLeDiff, Nat.reduceEqDiff, Nat.reduceMod, Nat.reduceDiv, Int.reduceNeg, Int.reduceLE, Int.reduceLT, Int.reduceToNat, Int.reduceEq, Int.reduceNe, ↓reduceIte,  hlt]
    refine ifI (fun h2 => ?_) fun h2 => ?_
    · set_option maxRecDepth 100000 in simp (maxSteps := 10000000) only [go_sem, Nat.reduceAdd, Nat.reduceSub, Nat.reduceMul, Nat.reduceLT, Nat.reduceLeDiff, Nat.reduceEqDiff, Nat.reduceMod, Nat.reduceDiv, Int.reduceNeg, Int.reduceLE, Int.reduceLT, Int.reduceToNat, Int.reduceEq, Int.reduceNe, ↓reduceIte,  hlt, hlt']
      refine ifI (fun h3 => ?_) fun h3 => ?_
      · have h4 : decide ((nth l i).size ≤ 100) = false := decide_eq_false (by omega)
        set_option maxRecDepth 100000 in simp (maxSteps := 10000000) only [go_sem, Nat.reduceAdd, Nat.reduceSub, Nat.reduceMul, Nat.reduceLT, Nat.reduceLeDiff, Nat.reduceEqDiff, Nat.reduceMod, Nat.reduceDiv, Int.reduceNeg, Int.reduceLE, Int.reduceLT, Int.reduceToNat, Int.reduceEq, Int.reduceNe, ↓reduceIte,  h3]
        rw [fewSs, all_not (p := fun s : ByteArray => decide (s.size ≤ 100)) hlt' h4, Bool.and_false]
      · have h4 : decide ((nth l i).size ≤ 100) = true := decide_eq_true (by omega)
        set_option maxRecDepth 100000 in simp (maxSteps := 10000000) only [go_sem, Nat.reduceAdd, Nat.reduceSub, Nat.reduceMul, Nat.reduceLT, Nat.reduceLeDiff, Nat.reduceEqDiff, Nat.reduceMod, Nat.reduceDiv, Int.reduceNeg, Int.reduceLE, Int.reduceLT, Int.reduceToNat, Int.reduceEq, Int.reduceNe, ↓reduceIte,  h3, wrap_succ (show i < 9223372036854775807 by omega)]
        refine ih (i + 1) _ ⟨by omega, by omega, fun j hj => ?_⟩ (by omega) ?_
        · rcases Nat.lt_or_ge j i with h | h
          · exact hp j h
          · rw [show j = i by omega]; exact h4
        · set_option maxRecDepth 100000 in simp (maxSteps := 10000000) only [go_sem, Nat.reduceAdd, Nat.reduceSub, Nat.reduceMul, Nat.reduceLT, Nat.reduceLeDiff, Nat.reduceEqDiff, Nat.reduceMod, Nat.reduceDiv, Int.reduceNeg, Int.reduceLE, Int.reduceLT, Int.reduceToNat, Int.reduceEq, Int.reduceNe, ↓reduceIte]
    · subst hst
      set_option maxRecDepth 100000 in simp (maxSteps := 10000000) only [go_sem, Nat.reduceAdd, Nat.reduceSub, Nat.reduceMul, Nat.reduceLT, Nat.reduceLeDiff, Nat.reduceEqDiff, Nat.reduceMod, Nat.reduceDiv, Int.reduceNeg, Int.reduceLE, Int.reduceLT, Int.reduceToNat, Int.reduceEq, Int.reduceNe, ↓reduceIte]
      exact few_end12 hi hp (.inr h2)
  · subst hst
    set_option maxRecDepth 100000 in simp (maxSteps := 10000000) only [go_sem, Nat.reduceAdd, Nat.reduceSub, Nat.reduceMul, Nat.reduceLT, Nat.reduceLeDiff, Nat.reduceEqDiff, Nat.reduceMod, Nat.reduceDiv, Int.reduceNeg, Int.reduceLE, Int.reduceLT, Int.reduceToNat, Int.reduceEq, Int.reduceNe, ↓reduceIte,  hlt]
    exact few_end12 hi hp (.inl (by omega))
def fewDL (d : Dir) (l : LList) : Bool := fewD d && (fewSs l.system && (fewSs l.user && decide (l.current.size ≤ 100)))
theorem fewDL_iff {d : Dir} {l : LList} (h : fewDL d l = true) : d.objects.length ≤ 1000000 ∧ l.system.length ≤ 12 ∧ l.user.length ≤ 12 ∧ l.current.size ≤ 100 := by
  rw [fewDL, Bool.and_eq_true, Bool.and_eq_true, Bool.and_eq_true, decide_eq_true_eq] at h
  exact ⟨fewD_len h.1, fewSs_len h.2.1, fewSs_len h.2.2.1, h.2.2.2⟩
theorem few_good (d : Dir) (l : LList) : Ans Try.prog 17 [.agg (encDir d), .agg (encLL l)] (.bool (fewDL d l)) := by
  have f1 := fewDirectory_good d
  have f2 := fewNames_good l.system
  have f3 := fewNames_good l.user
  cases a1 : fewD d with
  | false =>
    rw [a1] at f1
    rw [fewDL, a1, Bool.false_and]
    refine good_run [] mixed Try.func17 rfl Try.ntmps17 (rs := [.tmp 4]) rfl (by decide +kernel) (by kernel_rfl) rfl ?_
    rw [startE_eq 23 _ _ _ rfl rfl]
    set_option maxRecDepth 100000 in simp (maxSteps := 10000000) only [go_sem, Nat.reduceAdd, Nat.reduceSub, Nat.reduceMul, Nat.reduceLT, Nat.reduceLeDiff, Nat.reduceEqDiff, Nat.reduceMod, Nat.reduceDiv, Int.reduceNeg, Int.reduceLE, Int.reduceLT, Int.reduceToNat, Int.reduceEq, Int.reduceNe, ↓reduceIte]
    refine call_of (f1) ?_
    set_option maxRecDepth 100000 in simp (maxSteps := 10000000) only [go_sem, Nat.reduceAdd, Nat.reduceSub, Nat.reduceMul, Nat.reduceLT, Nat.reduceLeDiff, Nat.reduceEqDiff, Nat.reduceMod, Nat.reduceDiv, Int.reduceNeg, Int.reduceLE, Int.reduceLT, Int.reduceToNat, Int.reduceEq, Int.reduceNe, ↓reduceIte]
  | true =>
    rw [a1] at f1
    cases a2 : fewSs l.system with
    | false =>
      rw [a2] at f2
      rw [fewDL, a1, a2, Bool.true_and, Bool.false_and]
      refine good_run [] mixed Try.func17 rfl Try.ntmps17 (rs := [.tmp 4]) rfl (by decide +kernel) (by kernel_rfl) rfl ?_
      rw [startE_eq 23 _ _ _ rfl rfl]
      set_option maxRecDepth 100000 in simp (maxSteps := 10000000) only [go_sem, Nat.reduceAdd, Nat.reduceSub, Nat.reduceMul, Nat.reduceLT, Nat.reduceLeDiff, Nat.reduceEqDiff, Nat.reduceMod, Nat.reduceDiv, Int.reduceNeg, Int.reduceLE, Int.reduceLT, Int.reduceToNat, Int.reduceEq, Int.reduceNe, ↓reduceIte]
      refine call_of (f1) ?_
      set_option maxRecDepth 100000 in simp (maxSteps := 10000000) only [go_sem, Nat.reduceAdd, Nat.reduceSub, Nat.reduceMul, Nat.reduceLT, Nat.reduceLeDiff, Nat.reduceEqDiff, Nat.reduceMod, Nat.reduceDiv, Int.reduceNeg, Int.reduceLE, Int.reduceLT, Int.reduceToNat, Int.reduceEq, Int.reduceNe, ↓reduceIte]
      refine call_of (f2) ?_
      set_option maxRecDepth 100000 in simp (maxSteps := 10000000) only [go_sem, Nat.reduceAdd, Nat.reduceSub, Nat.reduceMul, Nat.reduceLT, Nat.reduceLeDiff, Nat.reduceEqDiff, Nat.reduceMod, Nat.reduceDiv, Int.reduceNeg, Int.reduceLE, Int.reduceLT, Int.reduceToNat, Int.reduceEq, Int.reduceNe, ↓reduceIte]
    | true =>
      rw [a2] at f2
      cases a3 : fewSs l.user with
      | false =>
        rw [a3] at f3
        rw [fewDL, a1, a2, a3, Bool.true_and, Bool.true_and, Bool.false_and]
        refine good_run [] mixed Try.func17 rfl Try.ntmps17 (rs := [.tmp 4]) rfl (by decide +kernel) (by kernel_rfl) rfl ?_
        rw [startE_eq 23 _ _ _ rfl rfl]
        set_option maxRecDepth 100000 in simp (maxSteps := 10000000) only [go_sem, Nat.reduceAdd, Nat.reduceSub, Nat.reduceMul, Nat.reduceLT, Nat.reduceLeDiff, Nat.reduceEqDiff, Nat.reduceMod, Nat.reduceDiv, Int.reduceNeg, Int.reduceLE, Int.reduceLT, Int.reduceToNat, Int.reduceEq, Int.reduceNe, ↓reduceIte]
        refine call_of (f1) ?_
        set_option maxRecDepth 100000 in simp (maxSteps := 10000000) only [go_sem, Nat.reduceAdd, Nat.reduceSub, Nat.reduceMul, Nat.reduceLT, Nat.reduceLeDiff, Nat.reduceEqDiff, Nat.reduceMod, Nat.reduceDiv, Int.reduceNeg, Int.reduceLE, Int.reduceLT, Int.reduceToNat, Int.reduceEq, Int.reduceNe, ↓reduceIte]
        refine call_of (f2) ?_
        set_option maxRecDepth 100000 in simp (maxSteps := 10000000) only [go_sem, Nat.reduceAdd, Nat.reduceSub, Nat.reduceMul, Nat.reduceLT, Nat.reduceLeDiff, Nat.reduceEqDiff, Nat.reduceMod, Nat.reduceDiv, Int.reduceNeg, Int.reduceLE, Int.reduceLT, Int.reduceToNat, Int.reduceEq, Int.reduceNe, ↓reduceIte]
        refine call_of (f3) ?_
        set_option maxRecDepth 100000 in simp (maxSteps := 10000000) only [go_sem, Nat.reduceAdd, Nat.reduceSub, Nat.reduceMul, Nat.reduceLT, Nat.reduceLeDiff, Nat.reduceEqDiff, Nat.reduceMod, Nat.reduceDiv, Int.reduceNeg, Int.reduceLE, Int.reduceLT, Int.reduceToNat, Int.reduceEq, Int.reduceNe, ↓reduceIte]
      | true =>
        rw [a3] at f3
        rw [fewDL, a1, a2, a3, Bool.true_and, Bool.true_and, Bool.true_and, ← sz_le]
        refine good_run [] mixed Try.func17 rfl Try.ntmps17 (rs := [.tmp 4]) rfl (by decide +kernel) (by kernel_rfl) rfl ?_
        rw [startE_eq 23 _ _ _ rfl rfl]
        set_option maxRecDepth 100000 in simp (maxSteps := 10000000) only [go_sem, Nat.reduceAdd, Nat.reduceSub, Nat.reduceMul, Nat.reduceLT, Nat.reduceLeDiff, Nat.reduceEqDiff, Nat.reduceMod, Nat.reduceDiv, Int.reduceNeg, Int.reduceLE, Int.reduceLT, Int.reduceToNat, Int.reduceEq, Int.reduceNe, ↓reduceIte]
        refine call_of (f1) ?_
        set_option maxRecDepth 100000 in simp (maxSteps := 10000000) only [go_sem, Nat.reduceAdd, Nat.reduceSub, Nat.reduceMul, Nat.reduceLT, Nat.reduceLeDiff, Nat.reduceEqDiff, Nat.reduceMod, Nat.reduceDiv, Int.reduceNeg, Int.reduceLE, Int.reduceLT, Int.reduceToNat, Int.reduceEq, Int.reduceNe, ↓reduceIte]
        refine call_of (f2) ?_
        set_option maxRecDepth 100000 in simp (maxSteps := 10000000) only [go_sem, Nat.reduceAdd, Nat.reduceSub, Nat.reduceMul, Nat.reduceLT, Nat.reduceLeDiff, Nat.reduceEqDiff, Nat.reduceMod, Nat.reduceDiv, Int.reduceNeg, Int.reduceLE, Int.reduceLT, Int.reduceToNat, Int.reduceEq, Int.reduceNe, ↓reduceIte]
        refine call_of (f3) ?_
        set_option maxRecDepth 100000 in simp (maxSteps := 10000000) only [go_sem, Nat.reduceAdd, Nat.reduceSub, Nat.reduceMul, Nat.reduceLT, Nat.reduceLeDiff, Nat.reduceEqDiff, Nat.reduceMod, Nat.reduceDiv, Int.reduceNeg, Int.reduceLE, Int.reduceLT, Int.reduceToNat, Int.reduceEq, Int.reduceNe, ↓reduceIte]

def aAPP : ByteArray := ⟨#[65, 80, 80]⟩
def aTEST : ByteArray := ⟨#[84, 69, 83, 84]⟩
def aOWN : ByteArray := ⟨#[79, 87, 78]⟩
def aD : Dir := ⟨[⟨⟨qsys, aAPP, 0⟩, aOWN, 1, ⟨#[]⟩, ⟨#[]⟩⟩, ⟨⟨qsys, aTEST, 0⟩, aOWN, 2, ⟨#[]⟩, ⟨#[]⟩⟩], 3⟩
def aL : LList := ⟨[qsys], aAPP, [aTEST, aAPP]⟩
def aQ : QName := ⟨⟨#[]⟩, ⟨#[88]⟩, false⟩
def aS : ByteArray := ⟨#[42, 76, 73, 66, 76, 47, 80, 65, 89, 42]⟩
theorem a1_eq : libsE aD aL aQ = 0 := by decide +kernel
theorem a2_eq : libsP aD aL aQ = [qsys, aAPP, aTEST] := by rw [libsP, if_pos a1_eq]; decide +kernel
theorem a3_eq : parseE aS = (⟨sLIBL, ⟨#[80, 65, 89]⟩, true⟩, 0, 0) := by decide +kernel
theorem awake_gen (c1 : Ans Try.prog 22 [.agg (encDir aD), .agg (encLL aL), .agg (encQ aQ)] (.tup [.sl ([qsys, aAPP, aTEST].map encStr), .int .i64 0]))
    (c2 : Ans Try.prog 15 [.str aS] (.tup [.agg (encQ ⟨sLIBL, ⟨#[80, 65, 89]⟩, true⟩), .int .i64 0, .int .i64 0]))
    (c3 : Ans Try.prog 24 [.sl ([qsys, aAPP, aTEST].map encStr), .sl ([qsys, aAPP, aTEST].map encStr)] (.bool true)) : Ans Try.prog 10 [] (.bool true) := by
  refine good_run [] mixed Try.func10 rfl Try.ntmps10 (rs := [.tmp 0]) rfl (by decide +kernel) (by kernel_rfl) rfl ?_
  rw [startE_eq 43 _ _ _ rfl rfl]
  set_option maxRecDepth 100000 in simp (maxSteps := 10000000) only [go_sem, Nat.reduceAdd, Nat.reduceSub, Nat.reduceMul, Nat.reduceLT, Nat.reduceLeDiff, Nat.reduceEqDiff, Nat.reduceMod, Nat.reduceDiv, Int.reduceNeg, Int.reduceLE, Int.reduceLT, Int.reduceToNat, Int.reduceEq, Int.reduceNe, ↓reduceIte]
  refine call_of (c1) ?_
  set_option maxRecDepth 100000 in simp (maxSteps := 10000000) only [go_sem, Nat.reduceAdd, Nat.reduceSub, Nat.reduceMul, Nat.reduceLT, Nat.reduceLeDiff, Nat.reduceEqDiff, Nat.reduceMod, Nat.reduceDiv, Int.reduceNeg, Int.reduceLE, Int.reduceLT, Int.reduceToNat, Int.reduceEq, Int.reduceNe, ↓reduceIte]
  refine call_of (c2) ?_
  set_option maxRecDepth 100000 in simp (maxSteps := 10000000) only [go_sem, Nat.reduceAdd, Nat.reduceSub, Nat.reduceMul, Nat.reduceLT, Nat.reduceLeDiff, Nat.reduceEqDiff, Nat.reduceMod, Nat.reduceDiv, Int.reduceNeg, Int.reduceLE, Int.reduceLT, Int.reduceToNat, Int.reduceEq, Int.reduceNe, ↓reduceIte]
  refine call_of (c3) ?_
  set_option maxRecDepth 100000 in simp (maxSteps := 10000000) only [go_sem, Nat.reduceAdd, Nat.reduceSub, Nat.reduceMul, Nat.reduceLT, Nat.reduceLeDiff, Nat.reduceEqDiff, Nat.reduceMod, Nat.reduceDiv, Int.reduceNeg, Int.reduceLE, Int.reduceLT, Int.reduceToNat, Int.reduceEq, Int.reduceNe, ↓reduceIte]
  decide +kernel
theorem awake_good : Ans Try.prog 10 [] (.bool true) := by
  have c1 := LibrariesFor_good aD aL aQ (by decide) (by decide) (by decide) (by decide) (by decide)
  rw [a1_eq, a2_eq] at c1
  have c2 := ParseName_good aS (by decide)
  rw [a3_eq] at c2
  have c3 := Strings_good [qsys, aAPP, aTEST] [qsys, aAPP, aTEST] (by decide)
  rw [decide_eq_true rfl] at c3
  exact awake_gen c1 c2 c3
end Go.Proofs.Ytppjmigiogddpaa.C08
