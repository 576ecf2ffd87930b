/- Chapter 10: what is looked at: few of all. -/
import Derived.Test.YtbhgehhmjpipiaaGreatF9
namespace Go.Proofs.YtbhgehhmjpipiaaGreat.C10
open Go Go.Proofs Go.Proofs.YtbhgehhmjpipiaaGreat.Ab
set_option maxRecDepth 100000
set_option linter.unusedSimpArgs false
attribute [local congr] ite_ctx
theorem all_nth {α : Type} [Inhabited α] (l : List α) (p : α → Bool) : l.all p = true ↔ ∀ j, j < l.length → p (nth l j) = true := by
  rw [List.all_eq_true]
  constructor
  · intro h j hj; exact h _ (nth_mem hj)
  · intro h x hx
    obtain ⟨i, hi, rfl⟩ := List.getElem_of_mem hx
    have := h i hi
    rwa [nth_eq hi] at this
theorem all_not {α : Type} [Inhabited α] {l : List α} {p : α → Bool} {i : Nat} (h : i < l.length) (hp : p (nth l i) = false) : l.all p = false := by
  rw [Bool.eq_false_iff]; intro h2
  rw [(all_nth l p).1 h2 i h] at hp; cases hp
def small (s : ByteArray) : Bool := decide (s.size ≤ 100)
theorem small_of {s : ByteArray} (h : ¬ (100 : Int) < (s.size : Int)) : small s = true := by rw [small, decide_eq_true_eq]; omega
theorem small_not {s : ByteArray} (h : (100 : Int) < (s.size : Int)) : small s = false := by rw [small, decide_eq_false_iff_not]; omega
def fewNamesB (l : List ByteArray) : Bool := decide (l.length ≤ 12) && l.all small
def fewGrantsB (l : List Grant) : Bool := decide (l.length ≤ 12) && l.all fun g => small g.user
theorem few_end {α : Type} [Inhabited α] {l : List α} {p : α → Bool} {i : Nat} (hi : i ≤ l.length) (hp : ∀ j, j < i → p (nth l j) = true) (h : ¬ ((i : Int) < (l.length : Int)) ∨ ¬ ((i : Int) ≤ 12)) :
    decide ((l.length : Int) ≤ 12) = (decide (l.length ≤ 12) && l.all p) := by
  by_cases h2 : l.length ≤ 12
  · have : l.all p = true := (all_nth l p).2 fun j hj => hp j (by omega)
    rw [this, decide_eq_true h2, decide_eq_true (by omega)]; rfl
  · rw [decide_eq_false h2, decide_eq_false (by omega)]; rfl
set_option maxHeartbeats 4000000 in
theorem fewNames_good (l : List ByteArray) : Ans Tryz.prog 74 [.sl (l.map encStr)] (.bool (fewNamesB l)) := by
  refine good_run [(2, [2, 4, 5, 6, 7, 8, 9, 10, 11, 12, 13, 14, 15, 16, 17, 18, 19], [])] mixed Tryz.func74 rfl Tryz.ntmps74 (rs := [.tmp 2]) rfl (by decide +kernel) (by kernel_rfl) rfl ?_
  rw [startE_eq 23 _ _ _ rfl rfl]
  simp only [go_sem, seval]
  refine loop_by ([2, 4, 5, 6, 7, 8, 9, 10, 11, 12, 13, 14, 15, 16, 17, 18, 19], []) (fun i : Nat => [(.s 3, .int .i64 (i : Int))]) (fun i => 13 - i) (fun i => i ≤ l.length ∧ i ≤ 13 ∧ ∀ j, j < i → small (nth l j) = true) 0 rfl ⟨Nat.zero_le _, Nat.zero_le _, fun j hj => absurd hj (Nat.not_lt_zero _)⟩ rfl ?_
  rintro c' st' hst i ⟨hi, hi2, hp⟩ ih
  simp only [go_sem, seval]
  refine ifI (fun hlt => ?_) fun hlt => ?_
  · have hlt' : i < l.length := by omega
    simp only [go_sem, seval, hlt]
    refine ifI (fun h2 => ?_) fun h2 => ?_
    · simp only [go_sem, seval, hlt, hlt']
      refine ifI (fun h3 => ?_) fun h3 => ?_
      · simp only [go_sem, seval]
        rw [fewNamesB, all_not hlt' (small_not h3), Bool.and_false]
      · simp only [go_sem, seval]
        refine ih (i + 1) _ ⟨by omega, by omega, fun j hj => ?_⟩ (by omega) ?_
        · rcases Nat.lt_or_ge j i with h | h
          · exact hp j h
          · rw [show j = i by omega]; exact small_of h3
        · simp only [go_sem, seval, wrap_succ (show i < 9223372036854775807 by omega)]
    · subst hst
      simp only [go_sem, seval]
      exact few_end hi hp (.inr h2)
  · subst hst
    simp only [go_sem, seval, hlt]
    exact few_end hi hp (.inl (by omega))
set_option maxHeartbeats 4000000 in
theorem fewGrants_good (l : List Grant) : Ans Tryz.prog 75 [.sl (l.map encGrant)] (.bool (fewGrantsB l)) := by
  refine good_run [(2, [2, 4, 5, 6, 7, 8, 9, 10, 11, 12, 13, 14, 15, 16, 17, 18, 19, 20], [])] mixed Tryz.func75 rfl Tryz.ntmps75 (rs := [.tmp 2]) rfl (by decide +kernel) (by kernel_rfl) rfl ?_
  rw [startE_eq 24 _ _ _ rfl rfl]
  simp only [go_sem, seval]
  refine loop_by ([2, 4, 5, 6, 7, 8, 9, 10, 11, 12, 13, 14, 15, 16, 17, 18, 19, 20], []) (fun i : Nat => [(.s 3, .int .i64 (i : Int))]) (fun i => 13 - i) (fun i => i ≤ l.length ∧ i ≤ 13 ∧ ∀ j, j < i → small (nth l j).user = true) 0 rfl ⟨Nat.zero_le _, Nat.zero_le _, fun j hj => absurd hj (Nat.not_lt_zero _)⟩ rfl ?_
  rintro c' st' hst i ⟨hi, hi2, hp⟩ ih
  simp only [go_sem, seval]
  refine ifI (fun hlt => ?_) fun hlt => ?_
  · have hlt' : i < l.length := by omega
    simp only [go_sem, seval, hlt]
    refine ifI (fun h2 => ?_) fun h2 => ?_
    · simp only [go_sem, seval, hlt, hlt']
      refine ifI (fun h3 => ?_) fun h3 => ?_
      · simp only [go_sem, seval]
        rw [fewGrantsB, all_not hlt' (small_not h3), Bool.and_false]
      · simp only [go_sem, seval]
        refine ih (i + 1) _ ⟨by omega, by omega, fun j hj => ?_⟩ (by omega) ?_
        · rcases Nat.lt_or_ge j i with h | h
          · exact hp j h
          · rw [show j = i by omega]; exact small_of h3
        · simp only [go_sem, seval, wrap_succ (show i < 9223372036854775807 by omega)]
    · subst hst
      simp only [go_sem, seval]
      exact few_end hi hp (.inr h2)
  · subst hst
    simp only [go_sem, seval, hlt]
    exact few_end hi hp (.inl (by omega))
def fewRequestB (r : Req) : Bool := small r.user && fewNamesB r.adopters
theorem small_le {s : ByteArray} : decide ((s.size : Int) ≤ 100) = small s := by
  rw [small]; exact decide_eq_decide.2 (by omega)
def fewP (p : Prof) : Bool := small p.name && fewNamesB p.groups
def fewL (l : AList) : Bool := small l.name && small l.owner && fewGrantsB l.grants
def fewO (o : Secured) : Bool := small o.name.lib && small o.name.name && small o.owner && small o.list && fewGrantsB o.grants
def fewB (s : Sec) : Bool := decide (s.profiles.length ≤ 14 ∧ s.lists.length ≤ 8 ∧ s.objects.length ≤ 10) && (s.profiles.all fewP && (s.lists.all fewL && s.objects.all fewO))
theorem fewB_no {s : Sec} (h : ¬ (s.profiles.length ≤ 14 ∧ s.lists.length ≤ 8 ∧ s.objects.length ≤ 10)) : fewB s = false := by
  rw [fewB, decide_eq_false h, Bool.false_and]
theorem all_lt {α : Type} [Inhabited α] {l : List α} {p : α → Bool} {i : Nat} (hi : l.length ≤ i) (hp : ∀ j, j < i → p (nth l j) = true) : l.all p = true := (all_nth l p).2 fun j hj => hp j (by omega)
theorem step_all {α : Type} [Inhabited α] {l : List α} {p : α → Bool} {i : Nat} (hp : ∀ j, j < i → p (nth l j) = true) (h : p (nth l i) = true) : ∀ j, j < i + 1 → p (nth l j) = true := fun j hj => by
  rcases Nat.lt_or_ge j i with h1 | h1
  · exact hp j h1
  · rw [show j = i by omega]; exact h
theorem big_not {s : ByteArray} : decide ((100 : Int) < (s.size : Int)) = !small s := by
  rw [small, ← decide_not]; exact decide_eq_decide.2 (by omega)
set_option maxHeartbeats 8000000 in
theorem Few_good (s : Sec) : Ans Tryz.prog 38 [.agg (encSec s)] (.bool (fewB s)) := by
  refine good_run [(14, [2, 6, 83, 84, 85, 86, 87, 88, 89, 90, 91, 92, 93, 94, 95, 96, 97, 98, 99, 100, 101, 102, 103, 104, 105, 106, 107, 108, 109, 110, 111, 112, 113, 114, 115, 116, 117, 118, 119, 120, 121, 122, 123, 124], [6]), (9, [2, 48, 49, 50, 51, 52, 53, 54, 55, 56, 57, 58, 59, 60, 61, 62, 63, 64, 65, 66, 67, 68, 69, 70, 71, 72, 73, 74, 75, 76, 77, 78, 79, 80, 81, 82], []), (4, [2, 23, 24, 25, 26, 27, 28, 29, 30, 31, 32, 33, 34, 35, 36, 37, 38, 39, 40, 41, 42, 43, 44, 45, 46, 47], []), (1000012, [4, 16], [12, 13, 14, 15]), (1000018, [4, 22], [18, 19, 20, 21]), (1000039, [8, 47], [39, 40, 41, 42, 43, 44, 45, 46]), (1000064, [8, 72], [64, 65, 66, 67, 68, 69, 70, 71]), (1000074, [8, 82], [74, 75, 76, 77, 78, 79, 80, 81]), (1000101, [5, 106], [101, 102, 103, 104, 105]), (1000108, [4, 112], [108, 109, 110, 111]), (1000114, [4, 118], [114, 115, 116, 117]), (1000120, [4, 124], [120, 121, 122, 123])] mixed Tryz.func38 rfl Tryz.ntmps38 (rs := [.tmp 2]) rfl (by decide +kernel) (by kernel_rfl) rfl ?_
  rw [startE_eq 125 _ _ _ rfl rfl]
  simp only [go_sem, seval]
  refine join_of (decide ((14 : Int) < (s.profiles.length : Int)) || decide ((8 : Int) < (s.lists.length : Int))) ?_ ?_
  · simp (contextual := true) only [go_sem, ifP_eq, seval]
    try (split <;> simp_all)
  simp only [go_sem, seval]
  refine join_of ((decide ((14 : Int) < (s.profiles.length : Int)) || decide ((8 : Int) < (s.lists.length : Int))) || decide ((10 : Int) < (s.objects.length : Int))) ?_ ?_
  · simp (contextual := true) only [go_sem, ifP_eq, seval]
    try (split <;> simp_all)
  simp only [go_sem, seval]
  refine ifI (fun h => ?_) fun h => ?_
  · simp only [go_sem, seval, h]
    simp only [Bool.or_eq_true, decide_eq_true_eq] at h
    rw [fewB_no (by omega)]
  simp only [Bool.or_eq_true, decide_eq_true_eq] at h
  simp only [go_sem, seval, h]
  have hE : fewB s = (s.profiles.all fewP && (s.lists.all fewL && s.objects.all fewO)) := by rw [fewB, decide_eq_true (by omega), Bool.true_and]
  refine loop_by ([2, 23, 24, 25, 26, 27, 28, 29, 30, 31, 32, 33, 34, 35, 36, 37, 38, 39, 40, 41, 42, 43, 44, 45, 46, 47], []) (fun i : Nat => [(.s 3, .int .i64 (i : Int))]) (fun i => s.profiles.length - i) (fun i => i ≤ s.profiles.length ∧ ∀ j, j < i → fewP (nth s.profiles j) = true) 0 rfl ⟨Nat.zero_le _, fun j hj => absurd hj (Nat.not_lt_zero _)⟩ rfl ?_
  rintro c' st' hst i ⟨hi, hp⟩ ih
  simp only [go_sem, seval]
  refine ifI (fun hlt => ?_) fun hlt => ?_
  · simp only [go_sem, seval, hlt]
    refine join_of (decide ((100 : Int) < ((nth s.profiles i).name.size : Int)) || !fewNamesB (nth s.profiles i).groups) ?_ ?_
    · simp only [go_sem, seval]
      refine ifI (fun hj => ?_) fun hj => ?_
      · simp only [go_sem, seval, hj, hlt]
        refine call_of (fewNames_good _) ?_
        simp only [go_sem, seval]
        try simp [hj]
      · simp only [go_sem, seval, hj]
        try simp [hj]
    simp only [go_sem, seval]
    refine ifI (fun h2 => ?_) fun h2 => ?_
    · simp only [go_sem, seval]
      have h3 : fewP (nth s.profiles i) = false := by rw [big_not] at h2; rw [fewP]; revert h2; cases small (nth s.profiles i).name <;> cases fewNamesB (nth s.profiles i).groups <;> simp
      rw [hE, all_not hlt h3, Bool.false_and]
    · simp only [go_sem, seval]
      have h3 : fewP (nth s.profiles i) = true := by rw [big_not] at h2; rw [fewP]; revert h2; cases small (nth s.profiles i).name <;> cases fewNamesB (nth s.profiles i).groups <;> simp
      refine ih (i + 1) _ ⟨by omega, step_all hp h3⟩ (by omega) ?_
      simp only [go_sem, seval, wrap_succ (show i < 9223372036854775807 by omega)]
  subst hst
  rw [all_lt (by omega) hp, Bool.true_and] at hE
  clear ih hp
  simp only [go_sem, seval]
  refine loop_by ([2, 48, 49, 50, 51, 52, 53, 54, 55, 56, 57, 58, 59, 60, 61, 62, 63, 64, 65, 66, 67, 68, 69, 70, 71, 72, 73, 74, 75, 76, 77, 78, 79, 80, 81, 82], []) (fun i : Nat => [(.s 4, .int .i64 (i : Int))]) (fun i => s.lists.length - i) (fun i => i ≤ s.lists.length ∧ ∀ j, j < i → fewL (nth s.lists j) = true) 0 rfl ⟨Nat.zero_le _, fun j hj => absurd hj (Nat.not_lt_zero _)⟩ rfl ?_
  rintro c' st' hst i ⟨hi, hp⟩ ih
  simp only [go_sem, seval]
  refine ifI (fun hlt => ?_) fun hlt => ?_
  · simp only [go_sem, seval, hlt]
    refine join_of (decide ((100 : Int) < ((nth s.lists i).name.size : Int)) || decide ((100 : Int) < ((nth s.lists i).owner.size : Int))) ?_ ?_
    · simp only [go_sem, seval]
      refine ifI (fun hj => ?_) fun hj => ?_
      · simp only [go_sem, seval, hj, hlt]
        try simp [hj]
      · simp only [go_sem, seval, hj]
        try simp [hj]
    simp only [go_sem, seval]
    refine join_of ((decide ((100 : Int) < ((nth s.lists i).name.size : Int)) || decide ((100 : Int) < ((nth s.lists i).owner.size : Int))) || !fewGrantsB (nth s.lists i).grants) ?_ ?_
    · simp only [go_sem, seval]
      refine ifI (fun hj => ?_) fun hj => ?_
      · simp only [go_sem, seval, hj, hlt]
        refine call_of (fewGrants_good _) ?_
        simp only [go_sem, seval]
        try simp [hj]
      · simp only [go_sem, seval, hj]
        try simp [hj]
    simp only [go_sem, seval]
    refine ifI (fun h2 => ?_) fun h2 => ?_
    · simp only [go_sem, seval]
      have h3 : fewL (nth s.lists i) = false := by rw [big_not, big_not] at h2; rw [fewL]; revert h2; cases small (nth s.lists i).name <;> cases small (nth s.lists i).owner <;> cases fewGrantsB (nth s.lists i).grants <;> simp
      rw [hE, all_not hlt h3, Bool.false_and]
    · simp only [go_sem, seval]
      have h3 : fewL (nth s.lists i) = true := by rw [big_not, big_not] at h2; rw [fewL]; revert h2; cases small (nth s.lists i).name <;> cases small (nth s.lists i).owner <;> cases fewGrantsB (nth s.lists i).grants <;> simp
      refine ih (i + 1) _ ⟨by omega, step_all hp h3⟩ (by omega) ?_
      simp only [go_sem, seval, wrap_succ (show i < 9223372036854775807 by omega)]
  subst hst
  rw [all_lt (by omega) hp, Bool.true_and] at hE
  clear ih hp
  simp only [go_sem, seval]
  refine loop_by ([2, 6, 83, 84, 85, 86, 87, 88, 89, 90, 91, 92, 93, 94, 95, 96, 97, 98, 99, 100, 101, 102, 103, 104, 105, 106, 107, 108, 109, 110, 111, 112, 113, 114, 115, 116, 117, 118, 119, 120, 121, 122, 123, 124], [6]) (fun i : Nat => [(.s 5, .int .i64 (i : Int)), (.o 6, deadV i)]) (fun i => s.objects.length - i) (fun i => i ≤ s.objects.length ∧ ∀ j, j < i → fewO (nth s.objects j) = true) 0 rfl ⟨Nat.zero_le _, fun j hj => absurd hj (Nat.not_lt_zero _)⟩ rfl ?_
  rintro c' st' hst i ⟨hi, hp⟩ ih
  simp only [go_sem, seval]
  refine ifI (fun hlt => ?_) fun hlt => ?_
  · simp only [go_sem, seval, hlt]
    refine join_of (decide ((100 : Int) < ((nth s.objects i).name.lib.size : Int)) || decide ((100 : Int) < ((nth s.objects i).name.name.size : Int))) ?_ ?_
    · simp only [go_sem, seval]
      refine ifI (fun hj => ?_) fun hj => ?_
      · simp only [go_sem, seval, hj, hlt]
        try simp [hj]
      · simp only [go_sem, seval, hj]
        try simp [hj]
    simp only [go_sem, seval]
    refine join_of ((decide ((100 : Int) < ((nth s.objects i).name.lib.size : Int)) || decide ((100 : Int) < ((nth s.objects i).name.name.size : Int))) || decide ((100 : Int) < ((nth s.objects i).owner.size : Int))) ?_ ?_
    · simp only [go_sem, seval]
      refine ifI (fun hj => ?_) fun hj => ?_
      · simp only [go_sem, seval, hj, hlt]
        try simp [hj]
      · simp only [go_sem, seval, hj]
        try simp [hj]
    simp only [go_sem, seval]
    refine join_of (((decide ((100 : Int) < ((nth s.objects i).name.lib.size : Int)) || decide ((100 : Int) < ((nth s.objects i).name.name.size : Int))) || decide ((100 : Int) < ((nth s.objects i).owner.size : Int))) || decide ((100 : Int) < ((nth s.objects i).list.size : Int))) ?_ ?_
    · simp only [go_sem, seval]
      refine ifI (fun hj => ?_) fun hj => ?_
      · simp only [go_sem, seval, hj, hlt]
        try simp [hj]
      · simp only [go_sem, seval, hj]
        try simp [hj]
    simp only [go_sem, seval]
    refine join_of ((((decide ((100 : Int) < ((nth s.objects i).name.lib.size : Int)) || decide ((100 : Int) < ((nth s.objects i).name.name.size : Int))) || decide ((100 : Int) < ((nth s.objects i).owner.size : Int))) || decide ((100 : Int) < ((nth s.objects i).list.size : Int))) || !fewGrantsB (nth s.objects i).grants) ?_ ?_
    · simp only [go_sem, seval]
      refine ifI (fun hj => ?_) fun hj => ?_
      · simp only [go_sem, seval, hj, hlt]
        refine call_of (fewGrants_good _) ?_
        simp only [go_sem, seval]
        try simp [hj]
      · simp only [go_sem, seval, hj]
        try simp [hj]
    simp only [go_sem, seval]
    refine ifI (fun h2 => ?_) fun h2 => ?_
    · simp only [go_sem, seval]
      have h3 : fewO (nth s.objects i) = false := by
        rw [big_not, big_not, big_not, big_not] at h2; rw [fewO]; revert h2
        cases small (nth s.objects i).name.lib <;> cases small (nth s.objects i).name.name <;> cases small (nth s.objects i).owner <;> cases small (nth s.objects i).list <;> cases fewGrantsB (nth s.objects i).grants <;> simp
      rw [hE, all_not hlt h3]
    · simp only [go_sem, seval]
      have h3 : fewO (nth s.objects i) = true := by
        rw [big_not, big_not, big_not, big_not] at h2; rw [fewO]; revert h2
        cases small (nth s.objects i).name.lib <;> cases small (nth s.objects i).name.name <;> cases small (nth s.objects i).owner <;> cases small (nth s.objects i).list <;> cases fewGrantsB (nth s.objects i).grants <;> simp
      refine ih (i + 1) _ ⟨by omega, step_all hp h3⟩ (by omega) ?_
      simp only [go_sem, seval, wrap_succ (show i < 9223372036854775807 by omega)]
  subst hst
  simp only [go_sem, seval]
  rw [hE, all_lt (by omega) hp]
/-- What is few may be counted. -/
theorem few_fit {s : Sec} (h : fewB s = true) : Fit s := by
  rw [fewB, Bool.and_eq_true, Bool.and_eq_true, Bool.and_eq_true, decide_eq_true_eq] at h
  obtain ⟨⟨h1, h2, h3⟩, h4, h5, h6⟩ := h
  rw [List.all_eq_true] at h4 h5 h6
  refine ⟨by omega, by omega, by omega, fun p hp => ?_, fun p hp => ?_, fun p hp => ?_⟩
  · have := h4 p hp
    simp only [fewP, fewNamesB, Bool.and_eq_true, decide_eq_true_eq] at this; omega
  · have := h5 p hp
    simp only [fewL, fewGrantsB, Bool.and_eq_true, decide_eq_true_eq] at this; omega
  · have := h6 p hp
    simp only [fewO, fewGrantsB, Bool.and_eq_true, decide_eq_true_eq] at this; omega
end Go.Proofs.YtbhgehhmjpipiaaGreat.C10
