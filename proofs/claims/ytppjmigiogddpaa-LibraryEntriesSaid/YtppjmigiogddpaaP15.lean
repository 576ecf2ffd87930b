/- Chapter 9: the plain law of right lists: no entry twice. -/
import Derived.Test.YtppjmigiogddpaaE21
namespace Go.Proofs.Ytppjmigiogddpaa.C08
open Go Go.Proofs Go.Proofs.Ytppjmigiogddpaa.Ab
set_option linter.unusedSimpArgs false
set_option linter.unusedVariables false

theorem user_len {d : Dir} {l : LList} (h : (listE d l).2 = 0) : l.user.length ≤ 8 := by
  rw [listE] at h
  split at h
  · rename_i q; exact absurd h q
  split at h
  · cases h
  · omega
theorem ins_set {l : List ByteArray} {i : Nat} {s : ByteArray} (hi : i < l.length) : insS (List.take i l ++ List.drop (i + 1) l) i s = l.set i s := by
  have ht : (List.take i l).length = i := by rw [List.length_take]; omega
  rw [insS, List.take_left' ht, List.drop_left' ht, List.set_eq_take_append_cons_drop, if_pos hi]
theorem user_once {d : Dir} {l : LList} (h : (listE d l).2 = 0) {i j : Nat} (hij : i < j) (hj : j < l.user.length) : ¬ nth l.user i = nth l.user j := by
  intro e
  have hi : l.system.length + j < (l.system ++ l.user).length := by rw [List.length_append]; omega
  have hz := listE_all h hi
  have hn : ∀ k, k < l.user.length → nth (l.system ++ l.user) (l.system.length + k) = nth l.user k := fun k hk => by
    rw [nth_eq (by rw [List.length_append]; omega), nth_eq hk, List.getElem_append_right (by omega)]
    congr 1; omega
  rw [listI] at hz
  split at hz
  · rename_i q; exact absurd hz q
  split at hz
  · cases hz
  rename_i q
  apply q
  refine List.any_eq_true.2 ⟨nth l.user i, ?_, ?_⟩
  · have : (l.system ++ l.user)[l.system.length + i]? = some (nth l.user i) := by
      rw [List.getElem?_append_right (by omega), Nat.add_sub_cancel_left, List.getElem?_eq_getElem (by omega), nth_eq (by omega)]
    exact List.mem_of_getElem? (i := l.system.length + i) (by rw [List.getElem?_take, if_pos (by omega)]; exact this)
  · rw [hn j hj, e]; simp
theorem ixS_at {s : ByteArray} : ∀ {l : List ByteArray} {b k : Nat}, findIx (fun p => decide (p = s)) l b = (k : Int) → b ≤ k ∧ k - b < l.length ∧ nth l (k - b) = s := by
  intro l
  induction l with
  | nil => intro b k h; rw [findIx] at h; omega
  | cons a l ih =>
    intro b k h
    rw [findIx] at h
    split at h
    · rename_i hp
      have : k = b := by omega
      subst this
      exact ⟨Nat.le_refl _, by rw [Nat.sub_self]; exact Nat.succ_pos _, by rw [Nat.sub_self]; exact of_decide_eq_true hp⟩
    · obtain ⟨h1, h2, h3⟩ := ih h
      have e : k - b = (k - (b + 1)) + 1 := by omega
      exact ⟨by omega, by rw [e]; exact Nat.succ_lt_succ h2, by rw [e]; exact h3⟩
theorem leave_any {l : List ByteArray} (once : ∀ i j, i < j → j < l.length → ¬ nth l i = nth l j) {i : Nat} (hi : i < l.length) {s : ByteArray} :
    ((List.take i l ++ List.drop (i + 1) l).any fun p => decide (p = s)) = true ↔ ¬ ixS l s = -1 ∧ ¬ ixS l s = (i : Int) := by
  have hr := ixS_range l s
  have key : ∀ m, m < l.length → nth l m = s → 0 ≤ ixS l s := fun m hm e => by rw [← e]; exact ixS_self l hm
  have at2 : ∀ k : Nat, ixS l s = (k : Int) → k < l.length ∧ nth l k = s := fun k hk => by
    have := ixS_at hk
    rw [Nat.sub_zero] at this
    exact this.2
  have uniq : ∀ m k, m < l.length → k < l.length → nth l m = nth l k → m = k := fun m k hm hk e => by
    rcases Nat.lt_trichotomy m k with q | q | q
    · exact absurd e (once m k q hk)
    · exact q
    · exact absurd e.symm (once k m q hm)
  constructor
  · intro h
    obtain ⟨p, hp, hd⟩ := List.any_eq_true.1 h
    have hps : p = s := of_decide_eq_true hd
    subst hps
    obtain ⟨m, hm, hne, hms⟩ : ∃ m, m < l.length ∧ ¬ m = i ∧ nth l m = p := by
      rcases List.mem_append.1 hp with q | q
      · obtain ⟨m, hm, e⟩ := List.getElem_of_mem q
        rw [List.length_take] at hm
        exact ⟨m, by omega, by omega, by rw [nth_eq (by omega), ← e, List.getElem_take]⟩
      · obtain ⟨m, hm, e⟩ := List.getElem_of_mem q
        rw [List.length_drop] at hm
        exact ⟨i + 1 + m, by omega, by omega, by rw [nth_eq (by omega), ← e, List.getElem_drop]⟩
    have h0 := key m hm hms
    refine ⟨by omega, fun e => ?_⟩
    have hk := at2 i e
    exact hne (uniq m i hm hi (by rw [hms, hk.2]))
  · rintro ⟨h1, h2⟩
    obtain ⟨k, hk⟩ : ∃ k : Nat, ixS l s = (k : Int) := ⟨(ixS l s).toNat, by omega⟩
    obtain ⟨k1, k2⟩ := at2 k hk
    refine List.any_eq_true.2 ⟨s, ?_, by simp⟩
    rw [← k2, nth_eq k1]
    rcases Nat.lt_or_ge k i with q | q
    · exact List.mem_append.2 (.inl (List.mem_of_getElem? (i := k) (by rw [List.getElem?_take, if_pos q]; exact List.getElem?_eq_getElem k1)))
    · exact List.mem_append.2 (.inr (List.mem_of_getElem? (i := k - (i + 1)) (by rw [List.getElem?_drop, show i + 1 + (k - (i + 1)) = k by omega]; exact List.getElem?_eq_getElem k1)))
end Go.Proofs.Ytppjmigiogddpaa.C08
