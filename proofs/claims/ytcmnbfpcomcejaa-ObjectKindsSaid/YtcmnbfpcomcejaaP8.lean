/- Chapter 8: the plain law of sorted directories: there is one order, and it is that of insertion. -/
import Derived.Test.YtcmnbfpcomcejaaC10
import Derived.Test.YtcmnbfpcomcejaaC5
namespace Go.Proofs.Ytcmnbfpcomcejaa.C08
open Go Go.Proofs Go.Proofs.Ytcmnbfpcomcejaa.Ab
set_option linter.unusedSimpArgs false
set_option linter.unusedVariables false

/-- A further object, at its place. -/
def insO (o : Obj) : List Obj → List Obj
  | [] => [o]
  | a :: l => if nLt o.name a.name = true then o :: a :: l else a :: insO o l
def Sorted (l : List Obj) : Prop := l.Pairwise fun a b => nLt a.name b.name = true

theorem insO_perm (o : Obj) : ∀ l : List Obj, (insO o l).Perm (o :: l)
  | [] => .refl _
  | a :: l => by
    rw [insO]
    split
    · exact .refl _
    · exact ((insO_perm o l).cons a).trans (.swap ..)
theorem insO_mem {o a : Obj} {l : List Obj} : a ∈ insO o l ↔ a = o ∨ a ∈ l := by rw [(insO_perm o l).mem_iff, List.mem_cons]
theorem insO_len (o : Obj) (l : List Obj) : (insO o l).length = l.length + 1 := (insO_perm o l).length_eq
theorem insO_sorted {o : Obj} : ∀ {l : List Obj}, Sorted l → (∀ a ∈ l, ¬ a.name = o.name) → Sorted (insO o l)
  | [], _, _ => List.pairwise_singleton ..
  | a :: l, h, hn => by
    obtain ⟨h1, h2⟩ := List.pairwise_cons.1 h
    rw [insO]
    split
    · rename_i hlt
      refine List.pairwise_cons.2 ⟨fun b hb => ?_, h⟩
      rcases List.mem_cons.1 hb with rfl | hb
      · exact hlt
      · exact nLt_trans hlt (h1 b hb)
    · rename_i hlt
      refine List.pairwise_cons.2 ⟨fun b hb => ?_, insO_sorted h2 fun b hb => hn b (List.mem_cons_of_mem _ hb)⟩
      rcases insO_mem.1 hb with rfl | hb
      · by_cases q : nLt a.name b.name = true
        · exact q
        · exact absurd (nLt_total (Bool.eq_false_iff.2 q) (Bool.eq_false_iff.2 hlt)) (hn a (List.mem_cons_self ..))
      · exact h1 b hb
theorem insO_any {o : Obj} {m : List Obj} : ∀ {l : List Obj}, (l.any fun a => nLt o.name a.name) = true → insO o (l ++ m) = insO o l ++ m
  | [], h => by cases h
  | a :: l, h => by
    rw [List.cons_append, insO, insO]
    split
    · rfl
    · rename_i hlt
      rw [List.any_cons, Bool.eq_false_iff.2 hlt, Bool.false_or] at h
      rw [insO_any h]; rfl
theorem insO_none {o : Obj} : ∀ {l : List Obj}, (l.any fun a => nLt o.name a.name) = false → insO o l = l ++ [o]
  | [], _ => rfl
  | a :: l, h => by
    rw [List.any_cons, Bool.or_eq_false_iff] at h
    rw [insO, if_neg (by rw [h.1]; decide), insO_none h.2]; rfl
theorem insO_at {o x : Obj} {l : List Obj} (h : (l.any fun a => nLt o.name a.name) = false) (hx : nLt o.name x.name = true) : insO o (l ++ [x]) = l ++ [o] ++ [x] := by
  induction l with
  | nil => rw [List.nil_append, insO, if_pos hx]; rfl
  | cons a l ih =>
    rw [List.any_cons, Bool.or_eq_false_iff] at h
    rw [List.cons_append, insO, if_neg (by rw [h.1]; decide), ih h.2]; rfl

theorem sorted_unique {l m : List Obj} (hp : l.Perm m) (hl : l.Pairwise fun a b => nLt b.name a.name = false) (hm : Sorted m) : l = m := by
  have hm2 : m.Pairwise fun a b => nLt b.name a.name = false := hm.imp fun {a b} h => by
    rw [Bool.eq_false_iff]; intro q
    have := nLt_trans h q
    rw [nLt_irrefl] at this; cases this
  refine List.Perm.eq_of_pairwise (le := fun a b => nLt b.name a.name = false) (fun a b ha hb h1 h2 => ?_) hl hm2 hp
  have hn := nLt_total h2 h1
  have ha2 : a ∈ m := hp.mem_iff.1 ha
  -- two of one name are one
  have key : ∀ {k : List Obj}, Sorted k → a ∈ k → b ∈ k → a = b := by
    intro k hk
    induction k with
    | nil => intro h; cases h
    | cons c k ih =>
      obtain ⟨k1, k2⟩ := List.pairwise_cons.1 hk
      intro qa qb
      rcases List.mem_cons.1 qa with ea | ea
      · rcases List.mem_cons.1 qb with eb | eb
        · rw [ea, eb]
        · have := k1 b eb; rw [← ea, hn, nLt_irrefl] at this; cases this
      · rcases List.mem_cons.1 qb with eb | eb
        · have := k1 a ea; rw [← eb, hn, nLt_irrefl] at this; cases this
        · exact ih k2 ea eb
  exact key hm ha2 hb

theorem sortO_pairwise (l : List Obj) : (sortO l).Pairwise fun a b => nLt b.name a.name = false := by
  rw [List.pairwise_iff_getElem]
  intro i j hi hj hij
  have hl := sortO_len l
  have := sortO_sorted l hij (by omega)
  rwa [nth_eq hi, nth_eq hj] at this
theorem sortO_eq {l m : List Obj} (hp : l.Perm m) (hm : Sorted m) : sortO l = m := sorted_unique ((sortO_perm l).trans hp) (sortO_pairwise l) hm
theorem sortO_ins {l : List Obj} {o : Obj} (h : Sorted l) (hn : ∀ a ∈ l, ¬ a.name = o.name) : sortO (l ++ [o]) = insO o l :=
  sortO_eq ((List.perm_append_comm).trans (insO_perm o l).symm) (insO_sorted h hn)

/-- What is so of a right directory. -/
theorem scanI_zero {f : Nat → Int} : ∀ (k i : Nat), (scanI f k i).2 = 0 → ∀ j, i ≤ j → j < i + k → f j = 0
  | 0, i, _, j, h1, h2 => by omega
  | k + 1, i, h, j, h1, h2 => by
    rw [scanI] at h
    split at h
    · rename_i h0
      by_cases hj : j = i
      · rw [hj]; exact h0
      · exact scanI_zero k (i + 1) h j (by omega) (by omega)
    · rename_i h0; exact absurd h h0
theorem dirE_objs {d : Dir} (h : (dirE d).2 = 0) {i : Nat} (hi : i < d.objects.length) : objE d i = 0 := by
  rw [dirE] at h
  split at h
  · cases h
  split at h
  · cases h
  split at h
  · rename_i h1; exact scanI_zero _ _ h1 i (Nat.zero_le _) (by omega)
  · rename_i h1; exact absurd h h1
structure ObjOk (d : Dir) (i : Nat) : Prop where
  err : errObj (nth d.objects i) = 0
  seg : 1 ≤ (nth d.objects i).seg ∧ (nth d.objects i).seg < d.next
  ord : 0 < i → nLt (nth d.objects (i - 1)).name (nth d.objects i).name = true
  once : ∀ j, j < i → ¬ (nth d.objects j).seg = (nth d.objects i).seg
  lib : hasLib d.objects (nth d.objects i).name.lib = true
theorem objE_ok {d : Dir} {i : Nat} (hi : i < d.objects.length) : objE d i = 0 ↔ ObjOk d i := by
  constructor
  · intro h
    rw [objE] at h
    split at h
    · rename_i q; exact absurd h q
    rename_i h1
    split at h
    · cases h
    rename_i h2
    split at h
    · cases h
    rename_i h3
    split at h
    · cases h
    rename_i h4
    split at h
    · cases h
    rename_i h5
    refine ⟨Classical.not_not.1 h1, by omega, fun h0 => ?_, fun j hj q => h4 ?_, by simpa using h5⟩
    · rw [← Bool.not_eq_false]; exact fun q => h3 ⟨h0, q⟩
    · refine List.any_eq_true.2 ⟨nth d.objects j, ?_, by simpa using q⟩
      have hj2 : j < (d.objects.take i).length := by rw [List.length_take]; omega
      have : nth d.objects j = (d.objects.take i)[j] := by rw [nth_eq (by omega), List.getElem_take]
      rw [this]; exact List.getElem_mem hj2
  · rintro ⟨h1, h2, h3, h4, h5⟩
    rw [objE, if_neg (not_not_intro h1), if_neg (by omega), if_neg (fun q => by rw [h3 q.1] at q; cases q.2), if_neg ?_, if_neg (by rw [h5]; decide)]
    intro q
    obtain ⟨o, ho, hs⟩ := List.any_eq_true.1 q
    obtain ⟨j, hj, rfl⟩ := List.getElem_of_mem ho
    rw [List.length_take] at hj
    refine h4 j (by omega) ?_
    rw [List.getElem_take, ← nth_eq (by omega)] at hs
    simpa using hs

theorem sorted_of {l : List Obj} (h : ∀ i, 0 < i → i < l.length → nLt (nth l (i - 1)).name (nth l i).name = true) : Sorted l := by
  unfold Sorted
  rw [List.pairwise_iff_getElem]
  intro i j hi hj hij
  have key : ∀ j, i < j → j < l.length → nLt (nth l i).name (nth l j).name = true := by
    intro j
    induction j with
    | zero => intro h; omega
    | succ j ih =>
      intro h1 h2
      have := h (j + 1) (by omega) h2
      rw [Nat.add_sub_cancel] at this
      by_cases hij : i = j
      · rw [hij]; exact this
      · exact nLt_trans (ih (by omega) (by omega)) this
  have := key j hij hj
  rwa [nth_eq hi, nth_eq hj] at this
theorem dir_sorted {d : Dir} (h : (dirE d).2 = 0) : Sorted d.objects :=
  sorted_of fun i h0 hi => ((objE_ok hi).1 (dirE_objs h hi)).ord h0
theorem place_no {l : List Obj} {n : OName} (h : ¬ 0 ≤ placeIx l n) : ∀ a ∈ l, ¬ a.name = n := fun a ha q => by
  have := findIx_any (fun o : Obj => decide (o.name = n)) l 0
  rw [show (l.any fun o : Obj => decide (o.name = n)) = true from List.any_eq_true.2 ⟨a, ha, by simpa using q⟩, decide_eq_true_eq] at this
  exact h this
end Go.Proofs.Ytcmnbfpcomcejaa.C08
