/- Chapter 9: the plain law of moving: one object taken out, one put in at its place. -/
import Derived.Test.YtppjmigiogddpaaGreatC14
import Derived.Test.YtppjmigiogddpaaGreatC6
namespace Go.Proofs.YtppjmigiogddpaaGreat.C08
open Go Go.Proofs Go.Proofs.YtppjmigiogddpaaGreat.Ab
set_option linter.unusedSimpArgs false
set_option linter.unusedVariables false

theorem findIx_true {α : Type} [Inhabited α] {p : α → Bool} : ∀ {l : List α} {b : Nat} {i : Nat}, findIx p l b = (i : Int) → b ≤ i ∧ p (nth l (i - b)) = true := by
  intro l
  induction l with
  | nil => intro b i h; rw [findIx] at h; omega
  | cons a l ih =>
    intro b i h
    rw [findIx] at h
    split at h
    · rename_i hp
      have : i = b := by omega
      subst this
      exact ⟨Nat.le_refl _, by rw [Nat.sub_self]; exact hp⟩
    · have := ih h
      refine ⟨by omega, ?_⟩
      have e : i - b = (i - (b + 1)) + 1 := by omega
      rw [e]; exact this.2
theorem place_name {l : List Obj} {n : OName} {i : Nat} (h : placeIx l n = (i : Int)) : (nth l i).name = n := by
  have := (findIx_true h).2
  rw [Nat.sub_zero] at this
  exact of_decide_eq_true this
theorem split_at {l : List Obj} {i : Nat} (h : i < l.length) : l = l.take i ++ nth l i :: l.drop (i + 1) := by
  rw [nth_eq h, ← List.drop_eq_getElem_cons h, List.take_append_drop]
theorem without_sub (l : List Obj) {i : Nat} (h : i < l.length) : (withoutL l i).Sublist l := by
  conv => rhs; rw [split_at h]
  exact (List.Sublist.refl _).append (List.sublist_cons_self _ _)

/-- Objects of a right type. -/
abbrev OT := { o : Obj // 0 ≤ o.name.type ∧ o.name.type ≤ 29 }
instance : Inhabited OT := ⟨⟨⟨⟨⟨#[]⟩, ⟨#[]⟩, 0⟩, ⟨#[]⟩, 0, ⟨#[]⟩, ⟨#[]⟩⟩, by decide, by decide⟩⟩
def cmpM (a b : OName) : Int :=
  if ¬ a.lib = b.lib then Lib.compareBytes a.lib.data.toList b.lib.data.toList
  else if ¬ a.name = b.name then Lib.compareBytes a.name.data.toList b.name.data.toList else a.type - b.type
def cfM (a b : OT) : Int := cmpM a.1.name b.1.name
theorem cmpM_lt (a b : OName) : decide (cmpM a b < 0) = nLt a b := by
  unfold cmpM nLt sLt
  rw [← ByteArray.toList_eq, ← ByteArray.toList_eq, ← ByteArray.toList_eq, ← ByteArray.toList_eq]
  by_cases h1 : a.lib = b.lib
  · rw [if_neg (not_not_intro h1), if_neg (not_not_intro h1)]
    by_cases h2 : a.name = b.name
    · rw [if_neg (not_not_intro h2), if_neg (not_not_intro h2), decide_eq_decide]; omega
    · rw [if_pos h2, if_pos h2, Bool.eq_iff_iff, decide_eq_true_eq, cmpB_lt]
  · rw [if_pos h1, if_pos h1, Bool.eq_iff_iff, decide_eq_true_eq, cmpB_lt]
theorem ltM (x y : OT) : ltOf cfM x y = nLt x.1.name y.1.name := cmpM_lt x.1.name y.1.name
theorem swoM : Sort.SWO (ltOf cfM) where
  irrefl x := by rw [ltM]; exact nLt_irrefl _
  trans x y z h1 h2 := by rw [ltM] at *; exact nLt_trans h1 h2
  ntrans x y z h1 h2 := by
    rw [ltM] at *
    rw [Bool.eq_false_iff]; intro h3
    by_cases h4 : nLt y.1.name x.1.name = true
    · rw [nLt_trans h4 h3] at h2; cases h2
    · have := nLt_total h1 (Bool.eq_false_iff.2 h4)
      rw [this, h2] at h3; cases h3

theorem mv_sort {l : List Obj} {i : Nat} {o : Obj} (hi : i < l.length) (hs : Sorted l) (hn : ∀ a ∈ l, ¬ a.name = o.name) (L : List OT) (hL : L.map (·.1) = l.set i o) :
    (sortG cfM L).map (·.1) = insO o (withoutL l i) := by
  have hsub := without_sub l hi
  refine sorted_unique ?_ ?_ (insO_sorted (hs.sublist hsub) fun a ha => hn a (hsub.subset ha))
  · refine ((sortG_perm swoM L).map _).trans ?_
    rw [hL, List.set_eq_take_append_cons_drop, if_pos hi]
    exact List.perm_middle.trans (insO_perm o _).symm
  · rw [List.pairwise_map, List.pairwise_iff_getElem]
    intro a b ha hb hab
    have hl := sortG_len swoM L
    have := sortG_sorted swoM L hab (by omega)
    rw [ltM, nth_eq hb, nth_eq ha] at this
    exact this
theorem errObj_name {o : Obj} (h : errObj o = 0) : errName o.name = 0 := by
  unfold errObj at h
  by_cases q : errName o.name = 0
  · exact q
  · first
    | rw [if_pos q] at h; exact absurd h q
    | (split at h <;> first | exact absurd h q | omega)
theorem obj_type {d : Dir} (h : (dirE d).2 = 0) {o : Obj} (ho : o ∈ d.objects) : 0 ≤ o.name.type ∧ o.name.type ≤ 29 := by
  obtain ⟨i, hi, rfl⟩ := List.getElem_of_mem ho
  have h1 := ((objE_ok hi).1 (dirE_objs h hi)).err
  rw [nth_eq hi] at h1
  have h2 := errObj_name h1
  rw [errName] at h2
  split at h2
  · cases h2
  · rename_i q
    have : inB (d.objects[i]).name.type 0 29 = true := by simpa using q
    rw [inB, decide_eq_true_eq] at this
    omega
end Go.Proofs.YtppjmigiogddpaaGreat.C08
