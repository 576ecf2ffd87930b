/- Chapter 8: the plain law of renaming. -/
import Derived.Test.YtcmnbfpcomcejaaC18
import Derived.Test.YtcmnbfpcomcejaaP8
namespace Go.Proofs.Ytcmnbfpcomcejaa.C08
open Go Go.Proofs Go.Proofs.Ytcmnbfpcomcejaa.Ab
set_option linter.unusedSimpArgs false
set_option linter.unusedVariables false

def libO (n : OName) (s : ByteArray) (o : Obj) : Obj := if n.type = 0 ∧ o.name.lib = n.name then { o with name := { o.name with lib := s } } else o
def renM (n : OName) (s : ByteArray) (o : Obj) : Obj := if o.name = n then { o with name := { o.name with name := s } } else libO n s o
def toN (n : OName) (s : ByteArray) : OName := ⟨n.lib, s, n.type⟩
/-- The row at the k-th round. -/
def renL (n : OName) (s : ByteArray) (l : List Obj) (k : Nat) : List Obj := (l.take k).map (libO n s) ++ l.drop k
theorem renL_len (n : OName) (s : ByteArray) (l : List Obj) (k : Nat) : (renL n s l k).length = l.length := by
  rw [renL, List.length_append, List.length_map, List.length_take, List.length_drop]; omega
theorem renL_zero (n : OName) (s : ByteArray) (l : List Obj) : renL n s l 0 = l := by rw [renL]; simp
theorem renL_all (n : OName) (s : ByteArray) (l : List Obj) : renL n s l l.length = l.map (libO n s) := by rw [renL]; simp
theorem renL_get {n : OName} {s : ByteArray} {l : List Obj} {k : Nat} (h : k < l.length) : (renL n s l k)[k]? = some (nth l k) := by
  have hk : ((l.take k).map (libO n s)).length = k := by rw [List.length_map, List.length_take]; omega
  rw [renL, List.getElem?_append_right (by omega), hk, Nat.sub_self, List.getElem?_drop, Nat.add_zero, List.getElem?_eq_getElem h, nth_eq h]
theorem renL_set {n : OName} {s : ByteArray} {l : List Obj} {k : Nat} (h : k < l.length) : (renL n s l k).set k (libO n s (nth l k)) = renL n s l (k + 1) := by
  have hk : ((l.take k).map (libO n s)).length = k := by rw [List.length_map, List.length_take]; omega
  rw [renL, renL, List.set_append_right _ _ (by omega), hk, Nat.sub_self, List.take_succ_eq_append_getElem h, List.map_append, List.drop_eq_getElem_cons h, List.set_cons_zero, nth_eq h]
  simp
theorem renL_same {n : OName} {s : ByteArray} {l : List Obj} {k : Nat} (h : k < l.length) (hs : libO n s (nth l k) = nth l k) : renL n s l k = renL n s l (k + 1) := by
  rw [← renL_set h, hs]
  refine List.ext_getElem? fun j => ?_
  rw [List.getElem?_set]
  split
  · rename_i e; subst e
    rw [renL_get h, if_pos (by rw [renL_len]; exact h)]
  · rfl

/-- What is found has the name, and no other. -/
theorem findIx_true {α : Type} [Inhabited α] {p : α → Bool} : ∀ {l : List α} {b : Nat} {i : Nat}, findIx p l b = (i : Int) → b ≤ i ∧ p (nth l (i - b)) = true := by
  intro l
  induction l with
  | nil => intro b i h; rw [findIx] at h; omega
  | cons a l ih =>
    intro b i h
    rw [findIx] at h
    split at h
    · rename_i hp
      have : i = b := by omega
      subst this
      exact ⟨Nat.le_refl _, by rw [Nat.sub_self]; exact hp⟩
    · have := ih h
      refine ⟨by omega, ?_⟩
      have e : i - b = (i - (b + 1)) + 1 := by omega
      rw [e]; exact this.2
theorem place_name {l : List Obj} {n : OName} {i : Nat} (h : placeIx l n = (i : Int)) : (nth l i).name = n := by
  have := (findIx_true h).2
  rw [Nat.sub_zero] at this
  exact of_decide_eq_true this
theorem sorted_inj {l : List Obj} (h : Sorted l) {i j : Nat} (hi : i < l.length) (hj : j < l.length) (hn : (nth l i).name = (nth l j).name) : i = j := by
  have key : ∀ i j, i < j → i < l.length → (hj : j < l.length) → ¬ (nth l i).name = (nth l j).name := fun i j hij hi hj e => by
    have := List.pairwise_iff_getElem.1 h i j hi hj hij
    rw [← nth_eq hi, ← nth_eq hj] at this
    rw [e, nLt_irrefl] at this; cases this
  rcases Nat.lt_trichotomy i j with q | q | q
  · exact absurd hn (key i j q hi hj)
  · exact q
  · exact absurd hn.symm (key j i q hj hi)

theorem errName_sys {n : OName} (h : errName n = 0) (ht : n.type = 0) : n.lib = qsys ∧ ¬ n.name = qsys := by
  have hc : clash n = false := by
    rw [errName] at h
    split at h
    · cases h
    split at h
    · cases h
    split at h
    · cases h
    split at h
    · cases h
    · rename_i q; simpa using q
  rw [clash, ht] at hc
  have : isSys 0 = true := by decide
  rw [this] at hc
  simp at hc
  exact ⟨Classical.not_not.1 fun q => by simp_all, by simp_all⟩

/-- What the program makes of the row is what the law says. -/
theorem ren_row {d : Dir} {n : OName} {s : ByteArray} {i : Nat} (hd : (dirE d).2 = 0) (hn : errName n = 0) (hx : placeIx d.objects n = (i : Int)) (hi : i < d.objects.length) :
    (d.objects.set i { nth d.objects i with name := toN n s }).map (libO n s) = d.objects.map (renM n s) := by
  have hname := place_name hx
  refine List.ext_getElem (by simp) fun j h1 h2 => ?_
  have hj : j < d.objects.length := by simpa using h2
  rw [List.getElem_map, List.getElem_map, List.getElem_set]
  have hnj : d.objects[j] = nth d.objects j := (nth_eq hj).symm
  split
  · rename_i e
    subst e
    rw [hnj, renM, if_pos hname, libO, if_neg]
    · rw [hname]; rfl
    · rintro ⟨q1, q2⟩
      have := errName_sys hn q1
      simp only [toN] at q2
      exact this.2 (by rw [← q2]; exact this.1)
  · rename_i e
    rw [hnj, renM, if_neg]
    intro q
    exact e (sorted_inj (dir_sorted hd) hi hj (by rw [hname, q]))

theorem ren_names {d : Dir} {n : OName} {s : ByteArray} (hd : (dirE d).2 = 0) (hn : errName n = 0) (hm : errName (toN n s) = 0) (hp : ¬ 0 ≤ placeIx d.objects (toN n s)) :
    (d.objects.map (renM n s)).Pairwise fun a b => ¬ a.name = b.name := by
  have hno := place_no hp
  rw [List.pairwise_map]
  have hs := dir_sorted hd
  have hlib : ∀ a ∈ d.objects, n.type = 0 → ¬ a.name.lib = s := fun a ha ht e => by
    obtain ⟨j, hj, rfl⟩ := List.getElem_of_mem ha
    have h1 := ((objE_ok hj).1 (dirE_objs hd hj)).lib
    rw [nth_eq hj, e, hasLib, Bool.or_eq_true, decide_eq_true_eq, decide_eq_true_eq] at h1
    have h2 := errName_sys hm ht
    have h3 := errName_sys hn ht
    rcases h1 with h1 | h1
    · exact h2.2 h1
    · refine hp ?_
      rw [toN, h3.1, ht]; exact h1
  refine List.Pairwise.imp_of_mem (fun {a b} ha hb hab => ?_) hs
  have hne : ¬ a.name = b.name := fun e => by rw [e, nLt_irrefl] at hab; cases hab
  intro e
  by_cases h1 : a.name = n
  · rw [renM, if_pos h1] at e
    have e1 : b.name ≠ n := fun q => hne (by rw [h1, q])
    rw [renM, if_neg e1, libO] at e
    split at e
    · rename_i q
      have := errName_sys hm q.1
      have h3 := errName_sys hn q.1
      have e2 : a.name.lib = s := congrArg OName.lib e
      rw [h1, h3.1] at e2
      exact this.2 e2.symm
    · exact hno b hb (by rw [← e, h1]; rfl)
  · rw [renM, if_neg h1] at e
    by_cases h2 : b.name = n
    · rw [renM, if_pos h2, libO] at e
      split at e
      · rename_i q
        have := errName_sys hm q.1
        have h3 := errName_sys hn q.1
        have e2 : s = b.name.lib := congrArg OName.lib e
        rw [h2, h3.1] at e2
        exact this.2 e2
      · exact hno a ha (by rw [e, h2]; rfl)
    · rw [renM, if_neg h2, libO, libO] at e
      split at e
      · rename_i q
        split at e
        · rename_i q2
          have e' : (⟨s, a.name.name, a.name.type⟩ : OName) = ⟨s, b.name.name, b.name.type⟩ := e
          have e1 : a.name.name = b.name.name := (OName.mk.inj e').2.1
          have e2 : a.name.type = b.name.type := (OName.mk.inj e').2.2
          have e3 : a.name.lib = b.name.lib := by rw [q.2, q2.2]
          exact hne (show (⟨a.name.lib, a.name.name, a.name.type⟩ : OName) = ⟨b.name.lib, b.name.name, b.name.type⟩ by rw [e1, e2, e3])
        · exact hlib b hb q.1 (congrArg OName.lib e).symm
      · split at e
        · rename_i q2
          exact hlib a ha q2.1 (congrArg OName.lib e)
        · exact hne e

/-- What With makes of all. -/
def insAll (l : List Obj) : List Obj := l.foldl (fun acc o => insO o acc) []
theorem insF_len (l : List Obj) : ∀ acc : List Obj, (l.foldl (fun acc o => insO o acc) acc).length = acc.length + l.length := by
  induction l with
  | nil => intro acc; rfl
  | cons o l ih => intro acc; rw [List.foldl_cons, ih, insO_len, List.length_cons]; omega
theorem insAll_len (l : List Obj) : (insAll l).length = l.length := by rw [insAll, insF_len]; simp
theorem insAll_snoc (l : List Obj) (o : Obj) : insAll (l ++ [o]) = insO o (insAll l) := by rw [insAll, List.foldl_append]; rfl
theorem insF_sort : ∀ (l acc : List Obj), Sorted acc → (∀ a ∈ acc, ∀ o ∈ l, ¬ a.name = o.name) → (l.Pairwise fun a b => ¬ a.name = b.name) → Sorted (l.foldl (fun acc o => insO o acc) acc) ∧ (acc ++ l).Perm (l.foldl (fun acc o => insO o acc) acc)
  | [], acc, h, _, _ => ⟨h, by rw [List.append_nil]; exact .refl _⟩
  | o :: l, acc, h, hd, hp => by
    obtain ⟨h1, h2⟩ := List.pairwise_cons.1 hp
    have := insF_sort l (insO o acc) (insO_sorted h fun a ha => hd a ha o (List.mem_cons_self ..)) (fun a ha x hx => by
      rcases insO_mem.1 ha with rfl | ha
      · exact h1 x hx
      · exact hd a ha x (List.mem_cons_of_mem _ hx)) h2
    refine ⟨this.1, ?_⟩
    rw [List.foldl_cons]
    exact (List.perm_middle.trans (((insO_perm o acc).symm.append_right l))).trans this.2
theorem insAll_sort {l : List Obj} (h : l.Pairwise fun a b => ¬ a.name = b.name) : insAll l = sortO l := by
  have := insF_sort l [] List.Pairwise.nil (fun a ha => by cases ha) h
  exact (sortO_eq this.2 this.1).symm
end Go.Proofs.Ytcmnbfpcomcejaa.C08
