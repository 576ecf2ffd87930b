/- Chapter 10: the plain law of private authorities that are struck: what is right stays right; who has no part in it keeps what he has. -/
import Derived.Test.YtdmcmfdmnlckdaaP6
import Derived.Sort.Walk0
namespace Go.Proofs.Ytdmcmfdmnlckdaa.C10
open Go Go.Proofs Go.Proofs.Ytdmcmfdmnlckdaa.Ab
set_option linter.unusedSimpArgs false
set_option linter.unusedVariables false

def cutL (l : List Grant) (i : Nat) : List Grant := l.take i ++ l.drop (i + 1)
def cutO (o : Secured) (i : Nat) : Secured := { o with grants := cutL o.grants i }
def cutG (s : Sec) (k i : Nat) : Sec := { s with objects := s.objects.set k (cutO (nth s.objects k) i) }

theorem sLt_trans {a b c : ByteArray} (h1 : sLt a b = true) (h2 : sLt b c = true) : sLt a c = true := by
  unfold sLt at *
  rw [bytesLess_eq, decide_eq_true_eq] at *
  exact List.lt_trans h1 h2

/-- Security information that differs from another in private authorities of objects alone, those right too. -/
structure Like (s t : Sec) : Prop where
  ps : t.profiles = s.profiles
  ls : t.lists = s.lists
  ol : t.objects.length = s.objects.length
  on : ∀ j, (nth t.objects j).name = (nth s.objects j).name
  oo : ∀ j, (nth t.objects j).owner = (nth s.objects j).owner
  oi : ∀ j, (nth t.objects j).list = (nth s.objects j).list
  ob : ∀ j, (nth t.objects j).byList = (nth s.objects j).byList
  op : ∀ j, (nth t.objects j).pub = (nth s.objects j).pub
  og : ∀ j, grantsE s (nth s.objects j).grants = 0 → grantsE s (nth t.objects j).grants = 0
  om : ∀ j, j < s.objects.length → (nth t.objects j).grants.length ≤ (nth s.objects j).grants.length + 1

namespace Like
variable {s t : Sec}
theorem ix (h : Like s t) (n : ByteArray) : profIx t n = profIx s n := by rw [profIx, profIx, h.ps]
theorem prof (h : Like s t) (n : ByteArray) : profOf t n = profOf s n := by rw [profOf, profOf, h.ix, h.ps]
theorem list (h : Like s t) (n : ByteArray) : listOf t n = listOf s n := by rw [listOf, listOf, listIx, listIx, h.ls]
theorem grantsE (h : Like s t) (l : List Grant) : C10.grantsE t l = C10.grantsE s l := by
  have e : C10.grantE t l = C10.grantE s l := funext fun i => by rw [grantE_def, grantE_def, h.ps]
  rw [C10.grantsE, C10.grantsE, e]
theorem profilesE (h : Like s t) : C10.profilesE t = C10.profilesE s := by
  obtain ⟨P, L, O⟩ := s
  obtain ⟨P', L', O'⟩ := t
  have h1 : P' = P := h.ps
  have h2 : L' = L := h.ls
  subst h1 h2
  rfl
theorem listE (h : Like s t) (i : Nat) : C10.listE t i = C10.listE s i := by
  obtain ⟨P, L, O⟩ := s
  obtain ⟨P', L', O'⟩ := t
  have h1 : P' = P := h.ps
  have h2 : L' = L := h.ls
  subst h1 h2
  rfl
theorem objE (h : Like s t) {i : Nat} (z : C10.objE s i = 0) : C10.objE t i = 0 := by
  rw [objE_def] at z ⊢
  simp only [h.on, h.oo, h.oi, h.ob, h.op, h.ls, h.ps, h.grantsE]
  have hz := firstE_zero z
  simp only [List.mem_cons, List.not_mem_nil, or_false, forall_eq_or_imp, forall_eq] at hz
  refine firstE_of ?_
  simp only [List.mem_cons, List.not_mem_nil, or_false, forall_eq_or_imp, forall_eq]
  exact ⟨hz.1, hz.2.1, hz.2.2.1, h.og i hz.2.2.2.1, hz.2.2.2.2⟩
theorem secE (h : Like s t) (z : (C10.secE s).2 = 0) : (C10.secE t).2 = 0 := by
  rw [C10.secE] at z
  split at z
  · cases z
  split at z
  · cases z
  split at z
  · cases z
  rename_i l1 l2 l3
  split at z
  · rename_i h1; exact absurd z h1
  rename_i hp
  split at z
  · rename_i h1; exact absurd z h1
  rename_i hl
  split at z
  · rename_i h1; exact absurd z h1
  rename_i ho
  simp only [ne_eq, Classical.not_not] at hp hl ho
  have q3 : C10.listE t = C10.listE s := funext h.listE
  have q4 : scanI (C10.objE t) t.objects.length 0 = (0, 0) := scanI_all _ _ fun j a b => h.objE (scanI_zero _ _ ho j a (by rw [← h.ol]; exact b))
  rw [C10.secE, h.ps, if_neg l1, h.ls, if_neg l2, h.ol, if_neg l3, h.profilesE, if_neg (not_not_intro hp), q3, if_neg (not_not_intro hl), ← h.ol, q4]; rfl
theorem fit (h : Like s t) (hs : Fit s) (hg : ∀ o ∈ t.objects, o.grants.length ≤ 1000000) : Fit t :=
  ⟨h.ps ▸ hs.profiles, h.ls ▸ hs.lists, h.ol ▸ hs.objects, h.ps ▸ hs.groups, h.ls ▸ hs.lgrants, hg⟩
theorem grouped (h : Like s t) (hg : Grouped s) : Grouped t := fun p hp g hq => by rw [h.ix]; exact hg p (h.ps ▸ hp) g hq
end Like

theorem nth_cutL {l : List Grant} {i : Nat} (hi : i < l.length) (j : Nat) : nth (cutL l i) j = if j < i then nth l j else nth l (j + 1) := by
  have ht : (l.take i).length = i := by rw [List.length_take]; omega
  rw [nth, nth, nth, List.getD_eq_getElem?_getD, List.getD_eq_getElem?_getD, List.getD_eq_getElem?_getD, cutL]
  split
  · rename_i h; rw [List.getElem?_append_left (by omega), List.getElem?_take_of_lt h]
  · rename_i h; rw [List.getElem?_append_right (by omega), ht, List.getElem?_drop, show i + 1 + (j - i) = j + 1 by omega]
theorem cutL_len {l : List Grant} {i : Nat} (hi : i < l.length) : (cutL l i).length + 1 = l.length := by
  rw [cutL, List.length_append, List.length_take, List.length_drop]; omega

theorem grantE_ok {s : Sec} {l : List Grant} {j : Nat} : grantE s l j = 0 ↔ ¬ findIx (fun p => decide (p.name = (nth l j).user)) s.profiles 0 < 0 ∧ (0 < j → sLt (nth l (j - 1)).user (nth l j).user = true) ∧ inB (nth l j).auth 0 1023 = true := by
  rw [grantE_def]
  constructor
  · intro z
    have hz := firstE_zero z
    simp only [List.mem_cons, List.not_mem_nil, or_false, forall_eq_or_imp, forall_eq] at hz
    refine ⟨ite_zero (by decide) hz.1, fun h => ?_, ?_⟩
    · have := ite_zero (by decide) hz.2.1
      simpa [h] using this
    · have := ite_zero (by decide) hz.2.2
      simpa using this
  · rintro ⟨h1, h2, h3⟩
    refine firstE_of ?_
    simp only [List.mem_cons, List.not_mem_nil, or_false, forall_eq_or_imp, forall_eq]
    refine ⟨if_neg h1, if_neg ?_, if_neg (by simp [h3])⟩
    simp only [Bool.and_eq_true, decide_eq_true_eq, Bool.not_eq_true', not_and, Bool.not_eq_false]
    exact h2

theorem grantsE_cut {s : Sec} {l : List Grant} {i : Nat} (hi : i < l.length) (z : grantsE s l = 0) : grantsE s (cutL l i) = 0 := by
  rw [grantsE] at z
  split at z
  · cases z
  rename_i h8
  have hl := cutL_len hi
  have hz : ∀ j, j < l.length → grantE s l j = 0 := fun j hj => scan_zero _ _ z j (Nat.zero_le _) (by omega)
  rw [grantsE, if_neg (by omega)]
  refine scan_all _ _ fun j _ hj => grantE_ok.2 ?_
  rw [nth_cutL hi, nth_cutL hi]
  by_cases hji : j < i
  · have := grantE_ok.1 (hz j (by omega))
    rw [if_pos hji, if_pos (by omega)]
    exact this
  · have h1 := grantE_ok.1 (hz (j + 1) (by omega))
    rw [if_neg hji]
    refine ⟨h1.1, fun h0 => ?_, h1.2.2⟩
    by_cases hj1 : j - 1 < i
    · rw [if_pos hj1]
      have h2 := (grantE_ok.1 (hz j (by omega))).2.1 h0
      have h3 := h1.2.1 (by omega)
      exact sLt_trans h2 h3
    · rw [if_neg hj1, show j - 1 + 1 = j by omega]
      exact h1.2.1 (by omega)

theorem like_cut {s : Sec} {k i : Nat} (hk : k < s.objects.length) (hi : i < (nth s.objects k).grants.length) : Like s (cutG s k i) := by
  have O : ∀ j, nth (cutG s k i).objects j = if k = j then cutO (nth s.objects k) i else nth s.objects j := fun j => nth_set hk
  refine ⟨rfl, rfl, by simp [cutG], fun j => ?_, fun j => ?_, fun j => ?_, fun j => ?_, fun j => ?_, fun j z => ?_, fun j hj => ?_⟩ <;> rw [O]
  all_goals split
  all_goals first
    | (rename_i e; subst e; rfl)
    | (rename_i e; subst e; exact grantsE_cut hi z)
    | (rename_i e; subst e; show (cutL _ _).length ≤ _; have := cutL_len hi; omega)
    | rfl
    | exact z
    | omega

theorem find_of {α : Type} [Inhabited α] (p : α → Bool) : ∀ (l : List α) (i : Nat), (l.find? p = none ∧ findIx p l i = -1) ∨ ∃ k, k < l.length ∧ findIx p l i = ((i + k : Nat) : Int) ∧ l.find? p = some (nth l k)
  | [], i => .inl ⟨rfl, rfl⟩
  | a :: l, i => by
    rw [findIx, List.find?_cons]
    by_cases h : p a = true
    · rw [if_pos h, h]
      exact .inr ⟨0, by simp, by simp, rfl⟩
    · rw [if_neg h, Bool.eq_false_iff.2 h]
      rcases find_of p l (i + 1) with ⟨h1, h2⟩ | ⟨k, h1, h2, h3⟩
      · exact .inl ⟨h1, h2⟩
      · exact .inr ⟨k + 1, by simpa using h1, by rw [h2]; congr 1; omega, h3⟩

/-- What a user's private authority is. -/
def privOf (l : List Grant) (u : ByteArray) : Option Int := (l.find? fun p => decide (p.user = u)).map (·.auth)
theorem priv_none {l : List Grant} {u : ByteArray} (h : privOf l u = none) : ¬ 0 ≤ grantIx l u := by
  rcases find_of (fun p : Grant => decide (p.user = u)) l 0 with ⟨h1, h2⟩ | ⟨k, h1, h2, h3⟩
  · rw [grantIx, h2]; decide
  · rw [privOf, h3] at h; cases h
theorem priv_some {l : List Grant} {u : ByteArray} {x : Int} (h : privOf l u = some x) : 0 ≤ grantIx l u ∧ authOf l u = x := by
  rcases find_of (fun p : Grant => decide (p.user = u)) l 0 with ⟨h1, h2⟩ | ⟨k, h1, h2, h3⟩
  · rw [privOf, h1] at h; cases h
  · rw [privOf, h3] at h
    simp only [Option.map_some, Option.some.injEq] at h
    rw [authOf, grantIx, h2]
    refine ⟨by omega, ?_⟩
    rw [show ((0 + k : Nat) : Int).toNat = k by omega]
    exact h

theorem priv_cut {l : List Grant} {u : ByteArray} {i : Nat} (hi : i < l.length) (hu : ¬ (nth l i).user = u) : privOf (cutL l i) u = privOf l u := by
  have e : l = l.take i ++ nth l i :: l.drop (i + 1) := by
    rw [nth_eq hi, ← List.drop_eq_getElem_cons hi, List.take_append_drop]
  have e2 : l.find? (fun p => decide (p.user = u)) = (cutL l i).find? fun p => decide (p.user = u) := by
    conv => lhs; rw [e]
    rw [cutL, List.find?_append, List.find?_append, List.find?_cons]
    simp [hu]
  rw [privOf, privOf, e2]

theorem itself_like {s t : Sec} (h : Like s t) (u : ByteArray) (j : Nat) (hp : privOf (nth t.objects j).grants u = privOf (nth s.objects j).grants u) : itselfP t u (nth t.objects j) = itselfP s u (nth s.objects j) := by
  rw [itselfP, itselfP, h.prof, h.oo, h.oi]
  cases hs : privOf (nth s.objects j).grants u with
  | none =>
    rw [if_neg (priv_none (hp.trans hs)), if_neg (priv_none hs)]
    simp only [h.list]
  | some x =>
    have h1 := priv_some (hp.trans hs)
    have h2 := priv_some hs
    rw [if_pos h1.1, if_pos h2.1, h1.2, h2.2]

theorem grpA_like {s t : Sec} {o o' : Secured} : ∀ (l : List ByteArray) (a : Int) (b : ByteArray), (∀ g ∈ l, itselfP t g o' = itselfP s g o) → grpA t o' l a b = grpA s o l a b
  | [], _, _, _ => rfl
  | g :: l, a, b, h => by
    rw [grpA, grpA, h g (List.mem_cons_self ..), grpA_like l _ _ fun x hx => h x (List.mem_cons_of_mem _ hx), grpA_like l _ _ fun x hx => h x (List.mem_cons_of_mem _ hx)]

theorem authority_like {s t : Sec} (h : Like s t) {u : ByteArray} {j : Nat} (hp : privOf (nth t.objects j).grants u = privOf (nth s.objects j).grants u) (hg : ∀ g ∈ (profOf s u).groups, privOf (nth t.objects j).grants g = privOf (nth s.objects j).grants g) :
    authorityP t u (nth t.objects j) = authorityP s u (nth s.objects j) := by
  rw [authorityP, authorityP, itself_like h u j hp, h.prof, grpA_like _ _ _ fun g hq => itself_like h g j (hg g hq)]
  rw [publicOf, publicOf, h.ob, h.op, h.oi, h.list]

theorem removes_law {s : Sec} {k i : Nat} {u : ByteArray} (hk : k < s.objects.length) (hi : i < (nth s.objects k).grants.length) (hu : ¬ (nth (nth s.objects k).grants i).user = u) (hg : (nth (nth s.objects k).grants i).user ∉ (profOf s u).groups) :
    authorityP (cutG s k i) u (nth (cutG s k i).objects k) = authorityP s u (nth s.objects k) := by
  have e : nth (cutG s k i).objects k = cutO (nth s.objects k) i := by
    show nth (s.objects.set k _) k = _
    rw [nth_set hk, if_pos rfl]
  refine authority_like (like_cut hk hi) ?_ fun g hq => ?_
  · rw [e]; exact priv_cut hi hu
  · rw [e]; exact priv_cut hi fun q => hg (q ▸ hq)
end Go.Proofs.Ytdmcmfdmnlckdaa.C10
