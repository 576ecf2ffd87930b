/- Chapter 8: the reference's creation and destruction, sameness, limits. -/
import Derived.Test.YtcmnbfpcomcejaaC13
namespace Go.Proofs.Ytcmnbfpcomcejaa.C08
open Go Go.Proofs Go.Proofs.Ytcmnbfpcomcejaa.Ab
set_option linter.unusedSimpArgs false
attribute [local congr] ite_ctx

theorem Own_good (d : Dir) (h : d.objects.length ≤ 1000000) : Ans Try.prog 23 [.agg (encDir d)] (.agg (encDir d)) := by
  refine good_run [] mixed Try.func23 rfl Try.ntmps23 (rs := [.cell 2 37]) rfl (by decide +kernel) (by kernel_rfl) rfl ?_
  rw [startE_eq 9 _ _ _ rfl rfl]
  set_option maxRecDepth 100000 in simp (maxSteps := 10000000) only [go_sem, Nat.reduceAdd, Nat.reduceSub, Nat.reduceMul, Nat.reduceLT, Nat.reduceLeDiff, Nat.reduceEqDiff, Nat.reduceMod, Nat.reduceDiv, Int.reduceNeg, Int.reduceLE, Int.reduceLT, Int.reduceToNat, Int.reduceEq, Int.reduceNe, ↓reduceIte,  List.length_map, show (d.objects.length) * 96 ≤ 140737488355328 by omega, show d.objects.length ≤ maxLen by unfold maxLen; omega]
  decide +kernel

def fewN (n : OName) : Bool := decide (n.lib.size ≤ 100) && decide (n.name.size ≤ 100)
theorem sz_le (s : ByteArray) (k : Nat) : decide ((s.size : Int) ≤ (k : Int)) = decide (s.size ≤ k) := by rw [decide_eq_decide]; omega
theorem fewName_good (n : OName) : Ans Try.prog 15 [.agg (encOName n)] (.bool (fewN n)) := by
  refine good_run [] mixed Try.func15 rfl Try.ntmps15 (rs := [.tmp 2]) rfl (by decide +kernel) (by kernel_rfl) rfl ?_
  rw [startE_eq 13 _ _ _ rfl rfl]
  set_option maxRecDepth 100000 in simp (maxSteps := 10000000) only [go_sem, Nat.reduceAdd, Nat.reduceSub, Nat.reduceMul, Nat.reduceLT, Nat.reduceLeDiff, Nat.reduceEqDiff, Nat.reduceMod, Nat.reduceDiv, Int.reduceNeg, Int.reduceLE, Int.reduceLT, Int.reduceToNat, Int.reduceEq, Int.reduceNe, ↓reduceIte]
  refine ifI (fun h1 => ?_) fun h1 => ?_
  · set_option maxRecDepth 100000 in simp (maxSteps := 10000000) only [go_sem, Nat.reduceAdd, Nat.reduceSub, Nat.reduceMul, Nat.reduceLT, Nat.reduceLeDiff, Nat.reduceEqDiff, Nat.reduceMod, Nat.reduceDiv, Int.reduceNeg, Int.reduceLE, Int.reduceLT, Int.reduceToNat, Int.reduceEq, Int.reduceNe, ↓reduceIte,  h1]
    rw [fewN, show decide (n.lib.size ≤ 100) = true from decide_eq_true (by omega), Bool.true_and, ← sz_le]; rfl
  · set_option maxRecDepth 100000 in simp (maxSteps := 10000000) only [go_sem, Nat.reduceAdd, Nat.reduceSub, Nat.reduceMul, Nat.reduceLT, Nat.reduceLeDiff, Nat.reduceEqDiff, Nat.reduceMod, Nat.reduceDiv, Int.reduceNeg, Int.reduceLE, Int.reduceLT, Int.reduceToNat, Int.reduceEq, Int.reduceNe, ↓reduceIte,  h1]
    rw [fewN, show decide (n.lib.size ≤ 100) = false from decide_eq_false (by omega), Bool.false_and]

def fewO (o : Obj) : Bool := fewN o.name && decide (o.owner.size ≤ 100) && decide (o.text.size ≤ 300) && decide (o.content.size ≤ 600)
theorem fewObject_good (o : Obj) : Ans Try.prog 16 [.agg (encObj o)] (.bool (fewO o)) := by
  have e1 := sz_le o.owner 100
  have e2 := sz_le o.text 300
  have e3 := sz_le o.content 600
  refine Classical.byCases (fun h1 : fewN o.name = true => ?_) fun h1 => ?_
  · refine Classical.byCases (fun h2 : decide ((o.owner.size : Int) ≤ 100) = true => ?_) fun h2 => ?_
    · refine Classical.byCases (fun h3 : decide ((o.text.size : Int) ≤ 300) = true => ?_) fun h3 => ?_
      · have _ := h3
        refine good_run [] mixed Try.func16 rfl Try.ntmps16 (rs := [.tmp 2]) rfl (by decide +kernel) (by kernel_rfl) rfl ?_
        rw [startE_eq 24 _ _ _ rfl rfl]
        set_option maxRecDepth 100000 in simp (maxSteps := 10000000) only [go_sem, Nat.reduceAdd, Nat.reduceSub, Nat.reduceMul, Nat.reduceLT, Nat.reduceLeDiff, Nat.reduceEqDiff, Nat.reduceMod, Nat.reduceDiv, Int.reduceNeg, Int.reduceLE, Int.reduceLT, Int.reduceToNat, Int.reduceEq, Int.reduceNe, ↓reduceIte]
        refine call_of (fewName_good o.name) ?_
        set_option maxRecDepth 100000 in simp (maxSteps := 10000000) only [go_sem, Nat.reduceAdd, Nat.reduceSub, Nat.reduceMul, Nat.reduceLT, Nat.reduceLeDiff, Nat.reduceEqDiff, Nat.reduceMod, Nat.reduceDiv, Int.reduceNeg, Int.reduceLE, Int.reduceLT, Int.reduceToNat, Int.reduceEq, Int.reduceNe, ↓reduceIte,  h1, h2, h3, of_decide_eq_true h2, of_decide_eq_true h3]
        rw [fewO, h1, ← e1, ← e2, ← e3]
        simp_all
      · have h3' := of_decide_eq_false (Bool.eq_false_iff.2 h3)
        refine good_run [] mixed Try.func16 rfl Try.ntmps16 (rs := [.tmp 2]) rfl (by decide +kernel) (by kernel_rfl) rfl ?_
        rw [startE_eq 24 _ _ _ rfl rfl]
        set_option maxRecDepth 100000 in simp (maxSteps := 10000000) only [go_sem, Nat.reduceAdd, Nat.reduceSub, Nat.reduceMul, Nat.reduceLT, Nat.reduceLeDiff, Nat.reduceEqDiff, Nat.reduceMod, Nat.reduceDiv, Int.reduceNeg, Int.reduceLE, Int.reduceLT, Int.reduceToNat, Int.reduceEq, Int.reduceNe, ↓reduceIte]
        refine call_of (fewName_good o.name) ?_
        set_option maxRecDepth 100000 in simp (maxSteps := 10000000) only [go_sem, Nat.reduceAdd, Nat.reduceSub, Nat.reduceMul, Nat.reduceLT, Nat.reduceLeDiff, Nat.reduceEqDiff, Nat.reduceMod, Nat.reduceDiv, Int.reduceNeg, Int.reduceLE, Int.reduceLT, Int.reduceToNat, Int.reduceEq, Int.reduceNe, ↓reduceIte,  h1, of_decide_eq_true h2, h3']
        rw [fewO, h1, ← e1, ← e2, ← e3]
        simp_all
        try (intros; omega)
    · have h2' := of_decide_eq_false (Bool.eq_false_iff.2 h2)
      refine good_run [] mixed Try.func16 rfl Try.ntmps16 (rs := [.tmp 2]) rfl (by decide +kernel) (by kernel_rfl) rfl ?_
      rw [startE_eq 24 _ _ _ rfl rfl]
      set_option maxRecDepth 100000 in simp (maxSteps := 10000000) only [go_sem, Nat.reduceAdd, Nat.reduceSub, Nat.reduceMul, Nat.reduceLT, Nat.reduceLeDiff, Nat.reduceEqDiff, Nat.reduceMod, Nat.reduceDiv, Int.reduceNeg, Int.reduceLE, Int.reduceLT, Int.reduceToNat, Int.reduceEq, Int.reduceNe, ↓reduceIte]
      refine call_of (fewName_good o.name) ?_
      set_option maxRecDepth 100000 in simp (maxSteps := 10000000) only [go_sem, Nat.reduceAdd, Nat.reduceSub, Nat.reduceMul, Nat.reduceLT, Nat.reduceLeDiff, Nat.reduceEqDiff, Nat.reduceMod, Nat.reduceDiv, Int.reduceNeg, Int.reduceLE, Int.reduceLT, Int.reduceToNat, Int.reduceEq, Int.reduceNe, ↓reduceIte,  h1, h2']
      rw [fewO, h1, ← e1, ← e2, ← e3]
      simp_all
      try (intros; omega)
  · have _ := h1
    refine good_run [] mixed Try.func16 rfl Try.ntmps16 (rs := [.tmp 2]) rfl (by decide +kernel) (by kernel_rfl) rfl ?_
    rw [startE_eq 24 _ _ _ rfl rfl]
    set_option maxRecDepth 100000 in simp (maxSteps := 10000000) only [go_sem, Nat.reduceAdd, Nat.reduceSub, Nat.reduceMul, Nat.reduceLT, Nat.reduceLeDiff, Nat.reduceEqDiff, Nat.reduceMod, Nat.reduceDiv, Int.reduceNeg, Int.reduceLE, Int.reduceLT, Int.reduceToNat, Int.reduceEq, Int.reduceNe, ↓reduceIte]
    refine call_of (fewName_good o.name) ?_
    set_option maxRecDepth 100000 in simp (maxSteps := 10000000) only [go_sem, Nat.reduceAdd, Nat.reduceSub, Nat.reduceMul, Nat.reduceLT, Nat.reduceLeDiff, Nat.reduceEqDiff, Nat.reduceMod, Nat.reduceDiv, Int.reduceNeg, Int.reduceLE, Int.reduceLT, Int.reduceToNat, Int.reduceEq, Int.reduceNe, ↓reduceIte,  h1]
    rw [fewO, Bool.eq_false_iff.2 h1]
    rfl

theorem all_nth {α : Type} [Inhabited α] (l : List α) (p : α → Bool) : l.all p = true ↔ ∀ j, j < l.length → p (nth l j) = true := by
  rw [List.all_eq_true]
  constructor
  · intro h j hj; exact h _ (nth_mem hj)
  · intro h x hx
    obtain ⟨i, hi, rfl⟩ := List.getElem_of_mem hx
    have := h i hi
    rwa [nth_eq hi] at this
theorem all_not {α : Type} [Inhabited α] {l : List α} {p : α → Bool} {i : Nat} (h : i < l.length) (hp : p (nth l i) = false) : l.all p = false := by
  rw [Bool.eq_false_iff]; intro h2
  rw [(all_nth l p).1 h2 i h] at hp; cases hp
def fewD (d : Dir) : Bool := decide (d.objects.length < 44) && d.objects.all fewO
theorem few_end {α : Type} [Inhabited α] {l : List α} {p : α → Bool} {i : Nat} (hi : i ≤ l.length) (hp : ∀ j, j < i → p (nth l j) = true) (h : ¬ ((i : Int) < (l.length : Int)) ∨ ¬ ((i : Int) < 44)) :
    decide ((l.length : Int) < 44) = (decide (l.length < 44) && l.all p) := by
  by_cases h2 : l.length < 44
  · have : l.all p = true := (all_nth l p).2 fun j hj => hp j (by omega)
    rw [this, decide_eq_true h2, decide_eq_true (by omega)]; rfl
  · rw [decide_eq_false h2, decide_eq_false (by omega)]; rfl

set_option maxHeartbeats 4000000 in
theorem few_good (d : Dir) : Ans Try.prog 21 [.agg (encDir d)] (.bool (fewD d)) := by
  refine good_run [(2, [2, 4, 5, 6, 7, 8, 9, 10, 11, 12, 13, 14, 15, 16, 17, 18, 19, 20, 21], [])] mixed Try.func21 rfl Try.ntmps21 (rs := [.tmp 2]) rfl (by decide +kernel) (by kernel_rfl) rfl ?_
  rw [startE_eq 26 _ _ _ rfl rfl]
  set_option maxRecDepth 100000 in simp (maxSteps := 10000000) only [go_sem, Nat.reduceAdd, Nat.reduceSub, Nat.reduceMul, Nat.reduceLT, Nat.reduceLeDiff, Nat.reduceEqDiff, Nat.reduceMod, Nat.reduceDiv, Int.reduceNeg, Int.reduceLE, Int.reduceLT, Int.reduceToNat, Int.reduceEq, Int.reduceNe, ↓reduceIte]
  refine loop_by ([2, 4, 5, 6, 7, 8, 9, 10, 11, 12, 13, 14, 15, 16, 17, 18, 19, 20, 21], []) (fun i : Nat => [(.s 3, .int .i64 (i : Int))]) (fun i => 45 - i) (fun i => i ≤ d.objects.length ∧ i ≤ 44 ∧ ∀ j, j < i → fewO (nth d.objects j) = true) 0 rfl ⟨Nat.zero_le _, Nat.zero_le _, fun j hj => absurd hj (Nat.not_lt_zero _)⟩ rfl ?_
  rintro c' st' hst i ⟨hi, hi2, hp⟩ ih
  set_option maxRecDepth 100000 in simp (maxSteps := 10000000) only [go_sem, Nat.reduceAdd, Nat.reduceSub, Nat.reduceMul, Nat.reduceLT, Nat.reduceLeDiff, Nat.reduceEqDiff, Nat.reduceMod, Nat.reduceDiv, Int.reduceNeg, Int.reduceLE, Int.reduceLT, Int.reduceToNat, Int.reduceEq, Int.reduceNe, ↓reduceIte]
  refine ifI (fun hlt => ?_) fun hlt => ?_
  · have hlt' : i < d.objects.length := by omega
    set_option maxRecDepth 100000 in simp (maxSteps := 10000000) only [go_sem, Nat.reduceAdd, Nat.reduceSub, Nat.reduceMul, Nat.reduceLT, Nat.reduceLeDiff, Nat.reduceEqDiff, Nat.reduceMod, Nat.reduceDiv, Int.reduceNeg, Int.reduceLE, Int.reduceLT, Int.reduceToNat, Int.reduceEq, Int.reduceNe, ↓reduceIte,  hlt]
    refine ifI (fun h2 => ?_) fun h2 => ?_
    · set_option maxRecDepth 100000 in simp (maxSteps := 10000000) only [go_sem, Nat.reduceAdd, Nat.reduceSub, Nat.reduceMul, Nat.reduceLT, Nat.reduceLeDiff, Nat.reduceEqDiff, Nat.reduceMod, Nat.reduceDiv, Int.reduceNeg, Int.reduceLE, Int.reduceLT, Int.reduceToNat, Int.reduceEq, Int.reduceNe, ↓reduceIte,  hlt, hlt']
      refine Classical.byCases (fun h3 : fewO (nth d.objects i) = true => ?_) fun h3 => ?_
      · refine call_of (fewObject_good (nth d.objects i)) ?_
        set_option maxRecDepth 100000 in simp (maxSteps := 10000000) only [go_sem, Nat.reduceAdd, Nat.reduceSub, Nat.reduceMul, Nat.reduceLT, Nat.reduceLeDiff, Nat.reduceEqDiff, Nat.reduceMod, Nat.reduceDiv, Int.reduceNeg, Int.reduceLE, Int.reduceLT, Int.reduceToNat, Int.reduceEq, Int.reduceNe, ↓reduceIte,  h3, Bool.not_true]
        refine ih (i + 1) _ ⟨by omega, by omega, fun j hj => ?_⟩ (by omega) ?_
        · rcases Nat.lt_or_ge j i with h | h
          · exact hp j h
          · rw [show j = i by omega]; exact h3
        · set_option maxRecDepth 100000 in simp (maxSteps := 10000000) only [go_sem, Nat.reduceAdd, Nat.reduceSub, Nat.reduceMul, Nat.reduceLT, Nat.reduceLeDiff, Nat.reduceEqDiff, Nat.reduceMod, Nat.reduceDiv, Int.reduceNeg, Int.reduceLE, Int.reduceLT, Int.reduceToNat, Int.reduceEq, Int.reduceNe, ↓reduceIte,  wrap_succ (show i < 9223372036854775807 by omega)]
      · have h4 : fewO (nth d.objects i) = false := Bool.eq_false_iff.2 h3
        refine call_of (fewObject_good (nth d.objects i)) ?_
        set_option maxRecDepth 100000 in simp (maxSteps := 10000000) only [go_sem, Nat.reduceAdd, Nat.reduceSub, Nat.reduceMul, Nat.reduceLT, Nat.reduceLeDiff, Nat.reduceEqDiff, Nat.reduceMod, Nat.reduceDiv, Int.reduceNeg, Int.reduceLE, Int.reduceLT, Int.reduceToNat, Int.reduceEq, Int.reduceNe, ↓reduceIte,  h4, Bool.not_false]
        rw [fewD, all_not hlt' h4, Bool.and_false]
    · subst hst
      set_option maxRecDepth 100000 in simp (maxSteps := 10000000) only [go_sem, Nat.reduceAdd, Nat.reduceSub, Nat.reduceMul, Nat.reduceLT, Nat.reduceLeDiff, Nat.reduceEqDiff, Nat.reduceMod, Nat.reduceDiv, Int.reduceNeg, Int.reduceLE, Int.reduceLT, Int.reduceToNat, Int.reduceEq, Int.reduceNe, ↓reduceIte]
      exact few_end hi hp (.inr h2)
  · subst hst
    set_option maxRecDepth 100000 in simp (maxSteps := 10000000) only [go_sem, Nat.reduceAdd, Nat.reduceSub, Nat.reduceMul, Nat.reduceLT, Nat.reduceLeDiff, Nat.reduceEqDiff, Nat.reduceMod, Nat.reduceDiv, Int.reduceNeg, Int.reduceLE, Int.reduceLT, Int.reduceToNat, Int.reduceEq, Int.reduceNe, ↓reduceIte,  hlt]
    exact few_end hi hp (.inl (by omega))

theorem obj_eq (a b : Obj) : (decide (a.name.lib = b.name.lib) && (decide (a.name.name = b.name.name) && (decide (a.name.type = b.name.type) && (decide (a.owner = b.owner) && (decide (a.seg = b.seg) && (decide (a.text = b.text) && decide (a.content = b.content))))))) = decide (a = b) := by
  cases a; cases b
  rename_i n1 _ _ _ _ n2 _ _ _ _
  cases n1; cases n2
  rw [Bool.eq_iff_iff]
  simp [and_assoc]
theorem nth_ext {l m : List Obj} (h : l.length = m.length) (hp : ∀ j, j < l.length → nth l j = nth m j) : l = m := by
  refine List.ext_getElem h fun i h1 h2 => ?_
  have := hp i h1
  rwa [nth_eq h1, nth_eq h2] at this
theorem dir_ext {p q : Dir} (h1 : ¬ ¬ p.next = q.next) (h : p.objects.length = q.objects.length) (hp : ∀ j, j < p.objects.length → nth p.objects j = nth q.objects j) : p = q := by
  cases p; cases q
  have := nth_ext h hp
  simp only at this h1
  rw [this, Classical.not_not.1 h1]
set_option maxHeartbeats 4000000 in
theorem Same_good (p q : Dir) (h : p.objects.length ≤ 1000000) : Ans Try.prog 53 [.agg (encDir p), .agg (encDir q)] (.bool (decide (p = q))) := by
  refine good_run [(4, [4, 20, 21, 22, 23, 24, 25, 26, 27, 28, 29, 30, 31, 32, 33, 34, 35, 36, 37], [])] mixed Try.func53 rfl Try.ntmps53 (rs := [.tmp 4]) rfl (by decide +kernel) (by kernel_rfl) rfl ?_
  rw [startE_eq 38 _ _ _ rfl rfl]
  set_option maxRecDepth 100000 in simp (maxSteps := 10000000) only [go_sem, Nat.reduceAdd, Nat.reduceSub, Nat.reduceMul, Nat.reduceLT, Nat.reduceLeDiff, Nat.reduceEqDiff, Nat.reduceMod, Nat.reduceDiv, Int.reduceNeg, Int.reduceLE, Int.reduceLT, Int.reduceToNat, Int.reduceEq, Int.reduceNe, ↓reduceIte]
  refine ifI (fun h1 => ?_) fun h1 => ?_
  · set_option maxRecDepth 100000 in simp (maxSteps := 10000000) only [go_sem, Nat.reduceAdd, Nat.reduceSub, Nat.reduceMul, Nat.reduceLT, Nat.reduceLeDiff, Nat.reduceEqDiff, Nat.reduceMod, Nat.reduceDiv, Int.reduceNeg, Int.reduceLE, Int.reduceLT, Int.reduceToNat, Int.reduceEq, Int.reduceNe, ↓reduceIte,  h1]
    refine Classical.byCases (fun h2 : (p.objects.length : Int) = (q.objects.length : Int) => ?_) fun h2 => ?_
    case refine_2 =>
      set_option maxRecDepth 100000 in simp (maxSteps := 10000000) only [go_sem, Nat.reduceAdd, Nat.reduceSub, Nat.reduceMul, Nat.reduceLT, Nat.reduceLeDiff, Nat.reduceEqDiff, Nat.reduceMod, Nat.reduceDiv, Int.reduceNeg, Int.reduceLE, Int.reduceLT, Int.reduceToNat, Int.reduceEq, Int.reduceNe, ↓reduceIte,  h2, not_false_eq_true, decide_true]
      exact (decide_eq_false fun e => h2 (by rw [e])).symm
    have h2' : p.objects.length = q.objects.length := by omega
    set_option maxRecDepth 100000 in simp (maxSteps := 10000000) only [go_sem, Nat.reduceAdd, Nat.reduceSub, Nat.reduceMul, Nat.reduceLT, Nat.reduceLeDiff, Nat.reduceEqDiff, Nat.reduceMod, Nat.reduceDiv, Int.reduceNeg, Int.reduceLE, Int.reduceLT, Int.reduceToNat, Int.reduceEq, Int.reduceNe, ↓reduceIte,  h2, not_true_eq_false, decide_false]
    refine loop_by ([4, 20, 21, 22, 23, 24, 25, 26, 27, 28, 29, 30, 31, 32, 33, 34, 35, 36, 37], []) (fun i : Nat => [(.s 5, .int .i64 (i : Int))]) (fun i => p.objects.length - i) (fun i => i ≤ p.objects.length ∧ ∀ j, j < i → nth p.objects j = nth q.objects j) 0 rfl ⟨Nat.zero_le _, fun j hj => absurd hj (Nat.not_lt_zero _)⟩ rfl ?_
    rintro c' st' hst i ⟨hi, hp⟩ ih
    set_option maxRecDepth 100000 in simp (maxSteps := 10000000) only [go_sem, Nat.reduceAdd, Nat.reduceSub, Nat.reduceMul, Nat.reduceLT, Nat.reduceLeDiff, Nat.reduceEqDiff, Nat.reduceMod, Nat.reduceDiv, Int.reduceNeg, Int.reduceLE, Int.reduceLT, Int.reduceToNat, Int.reduceEq, Int.reduceNe, ↓reduceIte]
    refine ifI (fun hlt => ?_) fun hlt => ?_
    · set_option maxRecDepth 100000 in simp (maxSteps := 10000000) only [go_sem, Nat.reduceAdd, Nat.reduceSub, Nat.reduceMul, Nat.reduceLT, Nat.reduceLeDiff, Nat.reduceEqDiff, Nat.reduceMod, Nat.reduceDiv, Int.reduceNeg, Int.reduceLE, Int.reduceLT, Int.reduceToNat, Int.reduceEq, Int.reduceNe, ↓reduceIte,  hlt, show i < q.objects.length by omega, obj_eq]
      refine ⟨by decide +kernel, ifI (fun h3 => ?_) fun h3 => ?_⟩
      · set_option maxRecDepth 100000 in simp (maxSteps := 10000000) only [go_sem, Nat.reduceAdd, Nat.reduceSub, Nat.reduceMul, Nat.reduceLT, Nat.reduceLeDiff, Nat.reduceEqDiff, Nat.reduceMod, Nat.reduceDiv, Int.reduceNeg, Int.reduceLE, Int.reduceLT, Int.reduceToNat, Int.reduceEq, Int.reduceNe, ↓reduceIte]
        rw [Bool.not_eq_true', decide_eq_false_iff_not] at h3
        exact (decide_eq_false fun e => h3 (by rw [e])).symm
      · set_option maxRecDepth 100000 in simp (maxSteps := 10000000) only [go_sem, Nat.reduceAdd, Nat.reduceSub, Nat.reduceMul, Nat.reduceLT, Nat.reduceLeDiff, Nat.reduceEqDiff, Nat.reduceMod, Nat.reduceDiv, Int.reduceNeg, Int.reduceLE, Int.reduceLT, Int.reduceToNat, Int.reduceEq, Int.reduceNe, ↓reduceIte]
        rw [Bool.not_eq_true', decide_eq_false_iff_not, Classical.not_not] at h3
        refine ih (i + 1) _ ⟨by omega, fun j hj => ?_⟩ (by omega) ?_
        · rcases Nat.lt_or_ge j i with h | h
          · exact hp j h
          · rw [show j = i by omega]; exact h3
        · set_option maxRecDepth 100000 in simp (maxSteps := 10000000) only [go_sem, Nat.reduceAdd, Nat.reduceSub, Nat.reduceMul, Nat.reduceLT, Nat.reduceLeDiff, Nat.reduceEqDiff, Nat.reduceMod, Nat.reduceDiv, Int.reduceNeg, Int.reduceLE, Int.reduceLT, Int.reduceToNat, Int.reduceEq, Int.reduceNe, ↓reduceIte,  wrap_succ (show i < 9223372036854775807 by omega)]
    subst hst
    set_option maxRecDepth 100000 in simp (maxSteps := 10000000) only [go_sem, Nat.reduceAdd, Nat.reduceSub, Nat.reduceMul, Nat.reduceLT, Nat.reduceLeDiff, Nat.reduceEqDiff, Nat.reduceMod, Nat.reduceDiv, Int.reduceNeg, Int.reduceLE, Int.reduceLT, Int.reduceToNat, Int.reduceEq, Int.reduceNe, ↓reduceIte,  hlt]
    exact (decide_eq_true (dir_ext (of_decide_eq_false h1) h2' fun j hj => hp j (by omega))).symm
  · set_option maxRecDepth 100000 in simp (maxSteps := 10000000) only [go_sem, Nat.reduceAdd, Nat.reduceSub, Nat.reduceMul, Nat.reduceLT, Nat.reduceLeDiff, Nat.reduceEqDiff, Nat.reduceMod, Nat.reduceDiv, Int.reduceNeg, Int.reduceLE, Int.reduceLT, Int.reduceToNat, Int.reduceEq, Int.reduceNe, ↓reduceIte,  h1]
    exact (decide_eq_false fun e => h1 (by rw [e]; simp)).symm

theorem none_good (p : Dir) : Ans Try.prog 50 [.agg (encDir p)] (.bool (decide (p = noDir))) := by
  have hE : decide (p = noDir) = (decide (p.objects.length = 0) && decide (p.next = 0)) := by
    cases p; rw [Bool.eq_iff_iff]; simp [noDir]
  rw [hE]
  refine good_run [] mixed Try.func50 rfl Try.ntmps50 (rs := [.tmp 2]) rfl (by decide +kernel) (by kernel_rfl) rfl ?_
  rw [startE_eq 12 _ _ _ rfl rfl]
  set_option maxRecDepth 100000 in simp (maxSteps := 10000000) only [go_sem, Nat.reduceAdd, Nat.reduceSub, Nat.reduceMul, Nat.reduceLT, Nat.reduceLeDiff, Nat.reduceEqDiff, Nat.reduceMod, Nat.reduceDiv, Int.reduceNeg, Int.reduceLE, Int.reduceLT, Int.reduceToNat, Int.reduceEq, Int.reduceNe, ↓reduceIte]
  refine ifI (fun h1 => ?_) fun h1 => ?_
  · set_option maxRecDepth 100000 in simp (maxSteps := 10000000) only [go_sem, Nat.reduceAdd, Nat.reduceSub, Nat.reduceMul, Nat.reduceLT, Nat.reduceLeDiff, Nat.reduceEqDiff, Nat.reduceMod, Nat.reduceDiv, Int.reduceNeg, Int.reduceLE, Int.reduceLT, Int.reduceToNat, Int.reduceEq, Int.reduceNe, ↓reduceIte,  h1]
    rw [show decide (p.objects.length = 0) = true from decide_eq_true (by omega), Bool.true_and]
  · set_option maxRecDepth 100000 in simp (maxSteps := 10000000) only [go_sem, Nat.reduceAdd, Nat.reduceSub, Nat.reduceMul, Nat.reduceLT, Nat.reduceLeDiff, Nat.reduceEqDiff, Nat.reduceMod, Nat.reduceDiv, Int.reduceNeg, Int.reduceLE, Int.reduceLT, Int.reduceToNat, Int.reduceEq, Int.reduceNe, ↓reduceIte,  h1]
    rw [show decide (p.objects.length = 0) = false from decide_eq_false (by omega), Bool.false_and]

set_option maxHeartbeats 4000000 in
theorem Created_good (d : Dir) (o : Obj) (h : d.objects.length ≤ 1000000) (hn : 1 ≤ d.next ∧ d.next ≤ 9999) : Ans Try.prog 74 [.agg (encDir d), .agg (encObj o)] (.agg (encDir ⟨insO { o with seg := d.next } d.objects, d.next + 1⟩)) := by
  refine good_run [] mixed Try.func74 rfl Try.ntmps74 (rs := [.cell 4 37]) rfl (by decide +kernel) (by kernel_rfl) rfl ?_
  rw [startE_eq 17 _ _ _ rfl rfl]
  set_option maxRecDepth 100000 in simp (maxSteps := 10000000) only [go_sem, Nat.reduceAdd, Nat.reduceSub, Nat.reduceMul, Nat.reduceLT, Nat.reduceLeDiff, Nat.reduceEqDiff, Nat.reduceMod, Nat.reduceDiv, Int.reduceNeg, Int.reduceLE, Int.reduceLT, Int.reduceToNat, Int.reduceEq, Int.reduceNe, ↓reduceIte]
  refine call_of (With_good d { o with seg := d.next } h) ?_
  set_option maxRecDepth 100000 in simp (maxSteps := 10000000) only [go_sem, Nat.reduceAdd, Nat.reduceSub, Nat.reduceMul, Nat.reduceLT, Nat.reduceLeDiff, Nat.reduceEqDiff, Nat.reduceMod, Nat.reduceDiv, Int.reduceNeg, Int.reduceLE, Int.reduceLT, Int.reduceToNat, Int.reduceEq, Int.reduceNe, ↓reduceIte,  wrap_small (show -1000000 ≤ d.next + 1 by omega) (show d.next + 1 ≤ 1000000 by omega)]
  done

def createE2 (d : Dir) (o : Obj) : Int :=
  if ¬ errObj o = 0 then errObj o else if ¬ o.seg = 0 then 5 else if hasLib d.objects o.name.lib = false then 11
  else if 0 ≤ placeIx d.objects o.name then 12 else if d.objects.length = 40 ∨ 9999 < d.next then 30 else 0
theorem createE_eq (d : Dir) (o : Obj) : createE d o = if ¬ (dirE d).2 = 0 then (dirE d).2 else createE2 d o := rfl
set_option maxHeartbeats 4000000 in
theorem CreateErr_good (d : Dir) (o : Obj) (h : d.objects.length ≤ 1000000) : Ans Try.prog 73 [.agg (encDir d), .agg (encObj o)] (.int .i64 (createE2 d o)) := by
  have hge := findIx_ge (fun x : Obj => decide (x.name = o.name)) d.objects 0
  refine Classical.byCases (fun h2 : errObj o = 0 => ?_) fun h2 => ?_
  case refine_2 =>
    have he : createE2 d o = errObj o := by rw [createE2, if_pos h2]
    refine good_run [] mixed Try.func73 rfl Try.ntmps73 (rs := [.tmp 4]) rfl (by decide +kernel) (by kernel_rfl) rfl ?_
    rw [startE_eq 38 _ _ _ rfl rfl]
    set_option maxRecDepth 100000 in simp (maxSteps := 10000000) only [go_sem, Nat.reduceAdd, Nat.reduceSub, Nat.reduceMul, Nat.reduceLT, Nat.reduceLeDiff, Nat.reduceEqDiff, Nat.reduceMod, Nat.reduceDiv, Int.reduceNeg, Int.reduceLE, Int.reduceLT, Int.reduceToNat, Int.reduceEq, Int.reduceNe, ↓reduceIte]
    refine call_of (ObjectErr_good o) ?_
    set_option maxRecDepth 100000 in simp (maxSteps := 10000000) only [go_sem, Nat.reduceAdd, Nat.reduceSub, Nat.reduceMul, Nat.reduceLT, Nat.reduceLeDiff, Nat.reduceEqDiff, Nat.reduceMod, Nat.reduceDiv, Int.reduceNeg, Int.reduceLE, Int.reduceLT, Int.reduceToNat, Int.reduceEq, Int.reduceNe, ↓reduceIte,  h2, decide_false, decide_true, not_false_eq_true]
    rw [he]
  refine Classical.byCases (fun h3 : o.seg = 0 => ?_) fun h3 => ?_
  case refine_2 =>
    have he : createE2 d o = 5 := by rw [createE2, if_neg (not_not_intro h2), if_pos h3]
    refine good_run [] mixed Try.func73 rfl Try.ntmps73 (rs := [.tmp 4]) rfl (by decide +kernel) (by kernel_rfl) rfl ?_
    rw [startE_eq 38 _ _ _ rfl rfl]
    set_option maxRecDepth 100000 in simp (maxSteps := 10000000) only [go_sem, Nat.reduceAdd, Nat.reduceSub, Nat.reduceMul, Nat.reduceLT, Nat.reduceLeDiff, Nat.reduceEqDiff, Nat.reduceMod, Nat.reduceDiv, Int.reduceNeg, Int.reduceLE, Int.reduceLT, Int.reduceToNat, Int.reduceEq, Int.reduceNe, ↓reduceIte]
    refine call_of (ObjectErr_good o) ?_
    set_option maxRecDepth 100000 in simp (maxSteps := 10000000) only [go_sem, Nat.reduceAdd, Nat.reduceSub, Nat.reduceMul, Nat.reduceLT, Nat.reduceLeDiff, Nat.reduceEqDiff, Nat.reduceMod, Nat.reduceDiv, Int.reduceNeg, Int.reduceLE, Int.reduceLT, Int.reduceToNat, Int.reduceEq, Int.reduceNe, ↓reduceIte,  h2, h3, decide_false, decide_true, not_false_eq_true, eq_self, not_true_eq_false]
    rw [he]
  refine Classical.byCases (fun h4 : hasLib d.objects o.name.lib = false => ?_) fun h4 => ?_
  · have he : createE2 d o = 11 := by rw [createE2, if_neg (not_not_intro h2), if_neg (not_not_intro h3), if_pos h4]
    refine good_run [] mixed Try.func73 rfl Try.ntmps73 (rs := [.tmp 4]) rfl (by decide +kernel) (by kernel_rfl) rfl ?_
    rw [startE_eq 38 _ _ _ rfl rfl]
    set_option maxRecDepth 100000 in simp (maxSteps := 10000000) only [go_sem, Nat.reduceAdd, Nat.reduceSub, Nat.reduceMul, Nat.reduceLT, Nat.reduceLeDiff, Nat.reduceEqDiff, Nat.reduceMod, Nat.reduceDiv, Int.reduceNeg, Int.reduceLE, Int.reduceLT, Int.reduceToNat, Int.reduceEq, Int.reduceNe, ↓reduceIte]
    refine call_of (ObjectErr_good o) ?_
    set_option maxRecDepth 100000 in simp (maxSteps := 10000000) only [go_sem, Nat.reduceAdd, Nat.reduceSub, Nat.reduceMul, Nat.reduceLT, Nat.reduceLeDiff, Nat.reduceEqDiff, Nat.reduceMod, Nat.reduceDiv, Int.reduceNeg, Int.reduceLE, Int.reduceLT, Int.reduceToNat, Int.reduceEq, Int.reduceNe, ↓reduceIte,  h2, h3, decide_false, decide_true, not_false_eq_true, eq_self, not_true_eq_false]
    refine call_of (HasLibrary_good d o.name.lib h) ?_
    set_option maxRecDepth 100000 in simp (maxSteps := 10000000) only [go_sem, Nat.reduceAdd, Nat.reduceSub, Nat.reduceMul, Nat.reduceLT, Nat.reduceLeDiff, Nat.reduceEqDiff, Nat.reduceMod, Nat.reduceDiv, Int.reduceNeg, Int.reduceLE, Int.reduceLT, Int.reduceToNat, Int.reduceEq, Int.reduceNe, ↓reduceIte,  h4, Bool.not_false]
    rw [he]
  have h4' : hasLib d.objects o.name.lib = true := by simpa using h4
  refine Classical.byCases (fun h5 : 0 ≤ placeIx d.objects o.name => ?_) fun h5 => ?_
  · have he : createE2 d o = 12 := by rw [createE2, if_neg (not_not_intro h2), if_neg (not_not_intro h3), if_neg h4, if_pos h5]
    refine good_run [] mixed Try.func73 rfl Try.ntmps73 (rs := [.tmp 4]) rfl (by decide +kernel) (by kernel_rfl) rfl ?_
    rw [startE_eq 38 _ _ _ rfl rfl]
    set_option maxRecDepth 100000 in simp (maxSteps := 10000000) only [go_sem, Nat.reduceAdd, Nat.reduceSub, Nat.reduceMul, Nat.reduceLT, Nat.reduceLeDiff, Nat.reduceEqDiff, Nat.reduceMod, Nat.reduceDiv, Int.reduceNeg, Int.reduceLE, Int.reduceLT, Int.reduceToNat, Int.reduceEq, Int.reduceNe, ↓reduceIte]
    refine call_of (ObjectErr_good o) ?_
    set_option maxRecDepth 100000 in simp (maxSteps := 10000000) only [go_sem, Nat.reduceAdd, Nat.reduceSub, Nat.reduceMul, Nat.reduceLT, Nat.reduceLeDiff, Nat.reduceEqDiff, Nat.reduceMod, Nat.reduceDiv, Int.reduceNeg, Int.reduceLE, Int.reduceLT, Int.reduceToNat, Int.reduceEq, Int.reduceNe, ↓reduceIte,  h2, h3, decide_false, decide_true, not_false_eq_true, eq_self, not_true_eq_false]
    refine call_of (HasLibrary_good d o.name.lib h) ?_
    set_option maxRecDepth 100000 in simp (maxSteps := 10000000) only [go_sem, Nat.reduceAdd, Nat.reduceSub, Nat.reduceMul, Nat.reduceLT, Nat.reduceLeDiff, Nat.reduceEqDiff, Nat.reduceMod, Nat.reduceDiv, Int.reduceNeg, Int.reduceLE, Int.reduceLT, Int.reduceToNat, Int.reduceEq, Int.reduceNe, ↓reduceIte,  h4', Bool.not_true]
    refine call_of (Place_good d o.name h) ?_
    set_option maxRecDepth 100000 in simp (maxSteps := 10000000) only [go_sem, Nat.reduceAdd, Nat.reduceSub, Nat.reduceMul, Nat.reduceLT, Nat.reduceLeDiff, Nat.reduceEqDiff, Nat.reduceMod, Nat.reduceDiv, Int.reduceNeg, Int.reduceLE, Int.reduceLT, Int.reduceToNat, Int.reduceEq, Int.reduceNe, ↓reduceIte,  show ¬ placeIx d.objects o.name = -1 by omega, decide_true]
    rw [he]
  have h5' : placeIx d.objects o.name = -1 := by unfold placeIx at h5 ⊢; omega
  have he : createE2 d o = if d.objects.length = 40 ∨ 9999 < d.next then 30 else 0 := by rw [createE2, if_neg (not_not_intro h2), if_neg (not_not_intro h3), if_neg h4, if_neg h5]
  refine good_run [] mixed Try.func73 rfl Try.ntmps73 (rs := [.tmp 4]) rfl (by decide +kernel) (by kernel_rfl) rfl ?_
  rw [startE_eq 38 _ _ _ rfl rfl]
  set_option maxRecDepth 100000 in simp (maxSteps := 10000000) only [go_sem, Nat.reduceAdd, Nat.reduceSub, Nat.reduceMul, Nat.reduceLT, Nat.reduceLeDiff, Nat.reduceEqDiff, Nat.reduceMod, Nat.reduceDiv, Int.reduceNeg, Int.reduceLE, Int.reduceLT, Int.reduceToNat, Int.reduceEq, Int.reduceNe, ↓reduceIte]
  refine call_of (ObjectErr_good o) ?_
  set_option maxRecDepth 100000 in simp (maxSteps := 10000000) only [go_sem, Nat.reduceAdd, Nat.reduceSub, Nat.reduceMul, Nat.reduceLT, Nat.reduceLeDiff, Nat.reduceEqDiff, Nat.reduceMod, Nat.reduceDiv, Int.reduceNeg, Int.reduceLE, Int.reduceLT, Int.reduceToNat, Int.reduceEq, Int.reduceNe, ↓reduceIte,  h2, h3, decide_false, decide_true, not_false_eq_true, eq_self, not_true_eq_false]
  refine call_of (HasLibrary_good d o.name.lib h) ?_
  set_option maxRecDepth 100000 in simp (maxSteps := 10000000) only [go_sem, Nat.reduceAdd, Nat.reduceSub, Nat.reduceMul, Nat.reduceLT, Nat.reduceLeDiff, Nat.reduceEqDiff, Nat.reduceMod, Nat.reduceDiv, Int.reduceNeg, Int.reduceLE, Int.reduceLT, Int.reduceToNat, Int.reduceEq, Int.reduceNe, ↓reduceIte,  h4', Bool.not_true]
  refine call_of (Place_good d o.name h) ?_
  set_option maxRecDepth 100000 in simp (maxSteps := 10000000) only [go_sem, Nat.reduceAdd, Nat.reduceSub, Nat.reduceMul, Nat.reduceLT, Nat.reduceLeDiff, Nat.reduceEqDiff, Nat.reduceMod, Nat.reduceDiv, Int.reduceNeg, Int.reduceLE, Int.reduceLT, Int.reduceToNat, Int.reduceEq, Int.reduceNe, ↓reduceIte,  h5', decide_false]
  refine Classical.byCases (fun h7 : (d.objects.length : Int) = 40 => ?_) fun h7 => ?_
  · set_option maxRecDepth 100000 in simp (maxSteps := 10000000) only [go_sem, Nat.reduceAdd, Nat.reduceSub, Nat.reduceMul, Nat.reduceLT, Nat.reduceLeDiff, Nat.reduceEqDiff, Nat.reduceMod, Nat.reduceDiv, Int.reduceNeg, Int.reduceLE, Int.reduceLT, Int.reduceToNat, Int.reduceEq, Int.reduceNe, ↓reduceIte,  h7, decide_true]
    rw [he, if_pos (.inl (by omega))]
  · refine Classical.byCases (fun h8 : (9999 : Int) < d.next => ?_) fun h8 => ?_
    · set_option maxRecDepth 100000 in simp (maxSteps := 10000000) only [go_sem, Nat.reduceAdd, Nat.reduceSub, Nat.reduceMul, Nat.reduceLT, Nat.reduceLeDiff, Nat.reduceEqDiff, Nat.reduceMod, Nat.reduceDiv, Int.reduceNeg, Int.reduceLE, Int.reduceLT, Int.reduceToNat, Int.reduceEq, Int.reduceNe, ↓reduceIte,  h7, h8, decide_true, decide_false]
      rw [he, if_pos (.inr h8)]
    · set_option maxRecDepth 100000 in simp (maxSteps := 10000000) only [go_sem, Nat.reduceAdd, Nat.reduceSub, Nat.reduceMul, Nat.reduceLT, Nat.reduceLeDiff, Nat.reduceEqDiff, Nat.reduceMod, Nat.reduceDiv, Int.reduceNeg, Int.reduceLE, Int.reduceLT, Int.reduceToNat, Int.reduceEq, Int.reduceNe, ↓reduceIte,  h7, h8, decide_true, decide_false]
      rw [he, if_neg (by omega)]

set_option maxHeartbeats 4000000 in
theorem Without_good (d : Dir) (i : Nat) (h : d.objects.length ≤ 1000000) (hi : i < d.objects.length) : Ans Try.prog 75 [.agg (encDir d), .int .i64 (i : Int)] (.agg (encDir ⟨withoutL d.objects i, d.next⟩)) := by
  have q3 : (0 : Int) ≤ (i : Int) := by omega
  have q4 : (i : Int) ≤ (d.objects.length : Int) := by omega
  have ht : (List.take i d.objects).length = i := by rw [List.length_take]; omega
  have h24 : i * 96 ≤ 140737488355328 := by omega
  have hmx : i ≤ maxLen := by unfold maxLen; omega
  have q5 : ((i + 1 : Nat) : Int) ≤ (d.objects.length : Int) := by omega
  have q6 : (0 : Int) ≤ ((i + 1 : Nat) : Int) := by omega
  have hdr : List.drop (i + 1) (List.take d.objects.length d.objects) = List.drop (i + 1) d.objects := by rw [List.take_of_length_le (Nat.le_refl _)]
  have hl2 : (List.drop (i + 1) d.objects).length = d.objects.length - (i + 1) := List.length_drop
  have h25 : (i + (d.objects.length - (i + 1))) * 96 ≤ 140737488355328 := by omega
  have hm2 : i + (d.objects.length - (i + 1)) ≤ maxLen := by unfold maxLen; omega
  refine good_run [] mixed Try.func75 rfl Try.ntmps75 (rs := [.cell 4 37]) rfl (by decide +kernel) (by kernel_rfl) rfl ?_
  rw [startE_eq 19 _ _ _ rfl rfl]
  set_option maxRecDepth 100000 in simp (maxSteps := 10000000) only [go_sem, Nat.reduceAdd, Nat.reduceSub, Nat.reduceMul, Nat.reduceLT, Nat.reduceLeDiff, Nat.reduceEqDiff, Nat.reduceMod, Nat.reduceDiv, Int.reduceNeg, Int.reduceLE, Int.reduceLT, Int.reduceToNat, Int.reduceEq, Int.reduceNe, ↓reduceIte,  hi, q3, q4, Int.toNat_natCast, List.length_map, wrap_succ (show i < 9223372036854775807 by omega), ht, h24, hmx, q5, q6, Int.le_refl, Nat.le_refl, hdr, hl2, h25, hm2]
  refine ⟨by decide +kernel, ?_⟩
  simp [withoutL]

set_option maxHeartbeats 4000000 in
theorem IsUsed_good (d : Dir) (n : OName) (h : d.objects.length ≤ 1000000) : Ans Try.prog 51 [.agg (encDir d), .agg (encOName n)] (.bool (usedB d.objects n)) := by
  refine good_run [(2, [4, 6, 7, 8, 9, 10, 11, 12, 13, 14, 15, 16, 17, 18, 19, 20, 21, 22, 23, 24, 25, 26, 27], [])] mixed Try.func51 rfl Try.ntmps51 (rs := [.tmp 4]) rfl (by decide +kernel) (by kernel_rfl) rfl ?_
  rw [startE_eq 28 _ _ _ rfl rfl]
  set_option maxRecDepth 100000 in simp (maxSteps := 10000000) only [go_sem, Nat.reduceAdd, Nat.reduceSub, Nat.reduceMul, Nat.reduceLT, Nat.reduceLeDiff, Nat.reduceEqDiff, Nat.reduceMod, Nat.reduceDiv, Int.reduceNeg, Int.reduceLE, Int.reduceLT, Int.reduceToNat, Int.reduceEq, Int.reduceNe, ↓reduceIte]
  refine loop_by ([4, 6, 7, 8, 9, 10, 11, 12, 13, 14, 15, 16, 17, 18, 19, 20, 21, 22, 23, 24, 25, 26, 27], []) (fun i : Nat => [(.s 5, .int .i64 (i : Int))]) (fun i => d.objects.length - i) (fun i => i ≤ d.objects.length ∧ ∀ j, j < i → ¬ (nth d.objects j).name.lib = n.name) 0 rfl ⟨Nat.zero_le _, fun j hj => absurd hj (Nat.not_lt_zero _)⟩ rfl ?_
  rintro c' st' hst i ⟨hi, hp⟩ ih
  have hall : ∀ i, i ≤ d.objects.length → (∀ j, j < i → ¬ (nth d.objects j).name.lib = n.name) → ¬ (i < d.objects.length) → (d.objects.any fun o => decide (o.name.lib = n.name)) = false := by
    intro i hi hp hlt
    rw [Bool.eq_false_iff]; intro q
    obtain ⟨x, hx, h3⟩ := List.any_eq_true.1 q
    obtain ⟨j, hj, rfl⟩ := List.getElem_of_mem hx
    rw [← nth_eq hj] at h3
    exact hp j (by omega) (of_decide_eq_true h3)
  set_option maxRecDepth 100000 in simp (maxSteps := 10000000) only [go_sem, Nat.reduceAdd, Nat.reduceSub, Nat.reduceMul, Nat.reduceLT, Nat.reduceLeDiff, Nat.reduceEqDiff, Nat.reduceMod, Nat.reduceDiv, Int.reduceNeg, Int.reduceLE, Int.reduceLT, Int.reduceToNat, Int.reduceEq, Int.reduceNe, ↓reduceIte]
  refine ifI (fun hlt => ?_) fun hlt => ?_
  · have hlt' : i < d.objects.length := by omega
    set_option maxRecDepth 100000 in simp (maxSteps := 10000000) only [go_sem, Nat.reduceAdd, Nat.reduceSub, Nat.reduceMul, Nat.reduceLT, Nat.reduceLeDiff, Nat.reduceEqDiff, Nat.reduceMod, Nat.reduceDiv, Int.reduceNeg, Int.reduceLE, Int.reduceLT, Int.reduceToNat, Int.reduceEq, Int.reduceNe, ↓reduceIte,  hlt, hlt']
    refine Classical.byCases (fun h2 : n.type = 0 => ?_) fun h2 => ?_
    · set_option maxRecDepth 100000 in simp (maxSteps := 10000000) only [go_sem, Nat.reduceAdd, Nat.reduceSub, Nat.reduceMul, Nat.reduceLT, Nat.reduceLeDiff, Nat.reduceEqDiff, Nat.reduceMod, Nat.reduceDiv, Int.reduceNeg, Int.reduceLE, Int.reduceLT, Int.reduceToNat, Int.reduceEq, Int.reduceNe, ↓reduceIte,  hlt, hlt', h2]
      refine Classical.byCases (fun h3 : (nth d.objects i).name.lib = n.name => ?_) fun h3 => ?_
      · set_option maxRecDepth 100000 in simp (maxSteps := 10000000) only [go_sem, Nat.reduceAdd, Nat.reduceSub, Nat.reduceMul, Nat.reduceLT, Nat.reduceLeDiff, Nat.reduceEqDiff, Nat.reduceMod, Nat.reduceDiv, Int.reduceNeg, Int.reduceLE, Int.reduceLT, Int.reduceToNat, Int.reduceEq, Int.reduceNe, ↓reduceIte,  h3]
        refine ⟨by decide +kernel, ?_⟩
        rw [usedB, h2, List.any_eq_true.2 ⟨_, nth_mem hlt', decide_eq_true h3⟩]; rfl
      · set_option maxRecDepth 100000 in simp (maxSteps := 10000000) only [go_sem, Nat.reduceAdd, Nat.reduceSub, Nat.reduceMul, Nat.reduceLT, Nat.reduceLeDiff, Nat.reduceEqDiff, Nat.reduceMod, Nat.reduceDiv, Int.reduceNeg, Int.reduceLE, Int.reduceLT, Int.reduceToNat, Int.reduceEq, Int.reduceNe, ↓reduceIte,  h3]
        refine ⟨by decide +kernel, ?_⟩
        refine ih (i + 1) _ ⟨by omega, fun j hj => ?_⟩ (by omega) ?_
        · rcases Nat.lt_or_ge j i with h | h
          · exact hp j h
          · rw [show j = i by omega]; exact h3
        · set_option maxRecDepth 100000 in simp (maxSteps := 10000000) only [go_sem, Nat.reduceAdd, Nat.reduceSub, Nat.reduceMul, Nat.reduceLT, Nat.reduceLeDiff, Nat.reduceEqDiff, Nat.reduceMod, Nat.reduceDiv, Int.reduceNeg, Int.reduceLE, Int.reduceLT, Int.reduceToNat, Int.reduceEq, Int.reduceNe, ↓reduceIte,  h2, wrap_succ (show i < 9223372036854775807 by omega)]
    · subst hst
      set_option maxRecDepth 100000 in simp (maxSteps := 10000000) only [go_sem, Nat.reduceAdd, Nat.reduceSub, Nat.reduceMul, Nat.reduceLT, Nat.reduceLeDiff, Nat.reduceEqDiff, Nat.reduceMod, Nat.reduceDiv, Int.reduceNeg, Int.reduceLE, Int.reduceLT, Int.reduceToNat, Int.reduceEq, Int.reduceNe, ↓reduceIte,  h2]
      rw [usedB, decide_eq_false h2, Bool.false_and]
  · subst hst
    set_option maxRecDepth 100000 in simp (maxSteps := 10000000) only [go_sem, Nat.reduceAdd, Nat.reduceSub, Nat.reduceMul, Nat.reduceLT, Nat.reduceLeDiff, Nat.reduceEqDiff, Nat.reduceMod, Nat.reduceDiv, Int.reduceNeg, Int.reduceLE, Int.reduceLT, Int.reduceToNat, Int.reduceEq, Int.reduceNe, ↓reduceIte,  hlt]
    rw [usedB, hall i hi hp (by omega), Bool.and_false]
end Go.Proofs.Ytcmnbfpcomcejaa.C08
