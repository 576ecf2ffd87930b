/- Chapter 10: the plain law of ownership: what is the owner's stays, whatever the groups and the public authority. -/
import Derived.Test.YtdmcmfdmnlckdaaF13
namespace Go.Proofs.Ytdmcmfdmnlckdaa.C10
open Go Go.Proofs Go.Proofs.Ytdmcmfdmnlckdaa.Ab
set_option linter.unusedSimpArgs false
set_option linter.unusedVariables false

/-- Security information that differs from another only in groups left out and in public authorities. -/
structure Near (s t : Sec) : Prop where
  pl : t.profiles.length = s.profiles.length
  pn : ∀ j, (nth t.profiles j).name = (nth s.profiles j).name
  ps : ∀ j, (nth t.profiles j).special = (nth s.profiles j).special
  pg : ∀ j, (nth t.profiles j).groups = (nth s.profiles j).groups ∨ (nth t.profiles j).groups = []
  ls : t.lists = s.lists
  ol : t.objects.length = s.objects.length
  on : ∀ j, (nth t.objects j).name = (nth s.objects j).name
  oo : ∀ j, (nth t.objects j).owner = (nth s.objects j).owner
  og : ∀ j, (nth t.objects j).grants = (nth s.objects j).grants
  oi : ∀ j, (nth t.objects j).list = (nth s.objects j).list
  ob : ∀ j, (nth t.objects j).byList = (nth s.objects j).byList
  op : ∀ j, (nth t.objects j).pub = (nth s.objects j).pub ∨ ((nth s.objects j).byList = false ∧ inB (nth t.objects j).pub 0 1023 = true)

theorem firstE_of : ∀ {l : List Int}, (∀ e ∈ l, e = 0) → firstE l = 0
  | [], _ => rfl
  | x :: l, h => by rw [firstE, h x (List.mem_cons_self ..), if_pos rfl]; exact firstE_of fun e he => h e (List.mem_cons_of_mem _ he)

theorem findIx_names {n : ByteArray} : ∀ (l m : List Prof) (i : Nat), m.length = l.length → (∀ j, (nth m j).name = (nth l j).name) → findIx (fun p => decide (p.name = n)) m i = findIx (fun p => decide (p.name = n)) l i
  | [], [], _, _, _ => rfl
  | [], _ :: _, _, h, _ => by simp at h
  | _ :: _, [], _, h, _ => by simp at h
  | a :: l, b :: m, i, h, hn => by
    have h0 : b.name = a.name := hn 0
    have ih := findIx_names (n := n) l m (i + 1) (by simpa using h) fun j => hn (j + 1)
    rw [findIx, findIx, h0, ih]

theorem scan_all {f : Nat → Int} : ∀ (k i : Nat), (∀ j, i ≤ j → j < i + k → f j = 0) → scan f k i = 0
  | 0, _, _ => rfl
  | k + 1, i, h => by rw [scan, if_pos (h i (Nat.le_refl _) (by omega))]; exact scan_all k (i + 1) fun j h1 h2 => h j (by omega) (by omega)
theorem scanI_all {f : Nat → Int} : ∀ (k i : Nat), (∀ j, i ≤ j → j < i + k → f j = 0) → scanI f k i = (0, 0)
  | 0, _, _ => rfl
  | k + 1, i, h => by rw [scanI, if_pos (h i (Nat.le_refl _) (by omega))]; exact scanI_all k (i + 1) fun j h1 h2 => h j (by omega) (by omega)

namespace Near
variable {s t : Sec}
theorem ix (h : Near s t) (n : ByteArray) : findIx (fun p => decide (p.name = n)) t.profiles 0 = findIx (fun p => decide (p.name = n)) s.profiles 0 := findIx_names _ _ 0 h.pl h.pn
theorem ix' (h : Near s t) (n : ByteArray) : profIx t n = profIx s n := h.ix n
theorem grantE (h : Near s t) (l : List Grant) (i : Nat) : C10.grantE t l i = C10.grantE s l i := by rw [grantE_def, grantE_def, h.ix]
theorem grantsE (h : Near s t) (l : List Grant) : C10.grantsE t l = C10.grantsE s l := by
  have e : C10.grantE t l = C10.grantE s l := funext (h.grantE l)
  rw [C10.grantsE, C10.grantsE, e]
theorem listE (h : Near s t) (i : Nat) : C10.listE t i = C10.listE s i := by rw [listE_def, listE_def, h.ls, h.ix, h.grantsE]
theorem profE (h : Near s t) {i : Nat} (z : C10.profE s i = 0) : C10.profE t i = 0 := by
  rw [profE_def] at z ⊢
  simp only [h.pn, h.ps]
  rcases h.pg i with e | e
  · rw [e]; exact z
  · have hz := firstE_zero z
    simp only [List.mem_cons, List.not_mem_nil, or_false, forall_eq_or_imp, forall_eq] at hz
    rw [e, hz.1, hz.2.1, hz.2.2.1]; rfl
theorem grpE (h : Near s t) {l : List ByteArray} {k : Nat} (z : C10.grpE s l k = 0) : C10.grpE t l k = 0 := by
  rw [C10.grpE, grpF] at z ⊢
  rw [h.ix']
  rcases h.pg (profIx s (nth l k)).toNat with e | e
  · rw [e]; exact z
  · have hz := firstE_zero z
    simp only [List.mem_cons, List.not_mem_nil, or_false, forall_eq_or_imp, forall_eq] at hz
    rw [e, hz.1, hz.2.2]; simp [firstE]
theorem grpsE (h : Near s t) {i : Nat} (z : C10.grpsE s i = 0) : C10.grpsE t i = 0 := by
  rw [C10.grpsE] at z ⊢
  rcases h.pg i with e | e
  · rw [e]
    exact scan_all _ _ fun j h1 h2 => h.grpE (scan_zero _ _ z j h1 h2)
  · rw [e]; rfl
theorem objE (h : Near s t) {i : Nat} (z : C10.objE s i = 0) : C10.objE t i = 0 := by
  rw [objE_def] at z ⊢
  simp only [h.on, h.oo, h.og, h.oi, h.ob, h.ls, h.ix, h.grantsE]
  rcases h.op i with e | ⟨e1, e2⟩
  · rw [e]; exact z
  · have hz := firstE_zero z
    simp only [List.mem_cons, List.not_mem_nil, or_false, forall_eq_or_imp, forall_eq] at hz
    rw [hz.1, hz.2.1, hz.2.2.1, hz.2.2.2.1, hz.2.2.2.2.1, e1, e2]; rfl
theorem secE (h : Near s t) (z : (C10.secE s).2 = 0) : (C10.secE t).2 = 0 := by
  rw [C10.secE] at z
  split at z
  · cases z
  split at z
  · cases z
  split at z
  · cases z
  rename_i l1 l2 l3
  split at z
  · rename_i h1; exact absurd z h1
  rename_i hp
  split at z
  · rename_i h1; exact absurd z h1
  rename_i hl
  split at z
  · rename_i h1; exact absurd z h1
  rename_i ho
  simp only [ne_eq, Classical.not_not] at hp hl ho
  have hp1 : (scanI (C10.profE s) s.profiles.length 0).2 = 0 ∧ (scanI (C10.grpsE s) s.profiles.length 0).2 = 0 := by
    rw [profilesE] at hp
    split at hp
    · rename_i h1; exact absurd hp h1
    · rename_i h1; exact ⟨Classical.not_not.1 h1, hp⟩
  have q1 : scanI (C10.profE t) t.profiles.length 0 = (0, 0) := scanI_all _ _ fun j a b => h.profE (scanI_zero _ _ hp1.1 j a (by rw [← h.pl]; exact b))
  have q2 : scanI (C10.grpsE t) t.profiles.length 0 = (0, 0) := scanI_all _ _ fun j a b => h.grpsE (scanI_zero _ _ hp1.2 j a (by rw [← h.pl]; exact b))
  have q3 : scanI (C10.listE t) t.lists.length 0 = (0, 0) := scanI_all _ _ fun j a b => by rw [h.listE]; exact scanI_zero _ _ hl j a (by rw [← h.ls]; exact b)
  have q4 : scanI (C10.objE t) t.objects.length 0 = (0, 0) := scanI_all _ _ fun j a b => h.objE (scanI_zero _ _ ho j a (by rw [← h.ol]; exact b))
  have q5 : profilesE t = (0, 0) := by rw [profilesE, q1, q2]; rfl
  rw [C10.secE, h.pl, if_neg l1, h.ls, if_neg l2, h.ol, if_neg l3, q5, ← h.ls, q3, ← h.ol, q4]; rfl
theorem itself (h : Near s t) (u : ByteArray) (j : Nat) : itselfP t u (nth t.objects j) = itselfP s u (nth s.objects j) := by
  have e1 : (profOf t u).special = (profOf s u).special := by rw [profOf, profOf, h.ix', h.ps]
  have e2 : ∀ n, listOf t n = listOf s n := fun n => by rw [listOf, listOf, listIx, listIx, h.ls]
  rw [itselfP, itselfP, e1, h.og, h.oo, h.oi, e2]
theorem authority (h : Near s t) {u : ByteArray} {i : Int} (hi : (itselfP s u (objOf s i)).2 = true) : authorityP t u (objOf t i) = authorityP s u (objOf s i) := by
  have e := h.itself u i.toNat
  rw [authorityP, authorityP, objOf, e, if_pos (show (itselfP s u (nth s.objects i.toNat)).2 = true from hi)]
  exact (if_pos hi).symm
theorem fit (h : Near s t) (hs : Fit s) : Fit t := by
  refine ⟨h.pl ▸ hs.profiles, h.ls ▸ hs.lists, h.ol ▸ hs.objects, fun p hp => ?_, h.ls ▸ hs.lgrants, fun o ho => ?_⟩
  · obtain ⟨j, hj, rfl⟩ := mem_nth hp
    rcases h.pg j with e | e
    · rw [e]; exact hs.groups _ (nth_mem (h.pl ▸ hj))
    · rw [e]; exact Nat.zero_le _
  · obtain ⟨j, hj, rfl⟩ := mem_nth ho
    rw [h.og]; exact hs.ogrants _ (nth_mem (h.ol ▸ hj))
end Near

/-- What the law compares with: the user's groups left out, the object's public authority another, unless a list has it. -/
def otherSec (s : Sec) (k i : Nat) (pub : Int) : Sec :=
  { s with profiles := s.profiles.set k { nth s.profiles k with groups := [] }, objects := if (nth s.objects i).byList = true then s.objects else s.objects.set i { nth s.objects i with pub := pub } }

theorem nth_set {α : Type} [Inhabited α] {l : List α} {k j : Nat} {x : α} (hk : k < l.length) : nth (l.set k x) j = if k = j then x else nth l j := by
  rw [nth, nth, List.getD_eq_getElem?_getD, List.getElem?_set, List.getD_eq_getElem?_getD]
  split
  · rfl
  · rfl

theorem near_other {s : Sec} {k i : Nat} {pub : Int} (hk : k < s.profiles.length) (hi : i < s.objects.length) (hp : inB pub 0 1023 = true) : Near s (otherSec s k i pub) := by
  have P : ∀ j, nth (otherSec s k i pub).profiles j = if k = j then { nth s.profiles k with groups := [] } else nth s.profiles j := fun j => nth_set hk
  have O : ∀ j, nth (otherSec s k i pub).objects j = if (nth s.objects i).byList = true then nth s.objects j else if i = j then { nth s.objects i with pub := pub } else nth s.objects j := fun j => by
    by_cases hb : (nth s.objects i).byList = true
    · rw [if_pos hb]; show nth (if _ then _ else _) j = _; rw [if_pos hb]
    · rw [if_neg hb]; show nth (if _ then _ else _) j = _; rw [if_neg hb]; exact nth_set hi
  have L : (otherSec s k i pub).objects.length = s.objects.length := by
    show (if _ then _ else _ : List Secured).length = _
    split
    · rfl
    · exact List.length_set
  refine ⟨List.length_set, fun j => ?_, fun j => ?_, fun j => ?_, rfl, L, fun j => ?_, fun j => ?_, fun j => ?_, fun j => ?_, fun j => ?_, fun j => ?_⟩
  · rw [P]; split
    · rename_i e; rw [← e]
    · rfl
  · rw [P]; split
    · rename_i e; rw [← e]
    · rfl
  · rw [P]; split
    · exact .inr rfl
    · exact .inl rfl
  · rw [O]; split
    · rfl
    · split
      · rename_i e; rw [← e]
      · rfl
  · rw [O]; split
    · rfl
    · split
      · rename_i e; rw [← e]
      · rfl
  · rw [O]; split
    · rfl
    · split
      · rename_i e; rw [← e]
      · rfl
  · rw [O]; split
    · rfl
    · split
      · rename_i e; rw [← e]
      · rfl
  · rw [O]; split
    · rfl
    · split
      · rename_i e; rw [← e]
      · rfl
  · rw [O]; split
    · exact .inl rfl
    · rename_i hb
      split
      · rename_i e; subst e; exact .inr ⟨by simpa using hb, hp⟩
      · exact .inl rfl
end Go.Proofs.Ytdmcmfdmnlckdaa.C10
