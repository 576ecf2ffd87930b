/- Chapter 10: the search of the program. -/
import Derived.Test.YtdmcmfdmnlckdaaF11
namespace Go.Proofs.Ytdmcmfdmnlckdaa.C10
open Go Go.Proofs Go.Proofs.Ytdmcmfdmnlckdaa.Ab
set_option linter.unusedSimpArgs false
attribute [local congr] ite_ctx

def nov : ByteArray := ⟨#[]⟩
def listIx (s : Sec) (n : ByteArray) : Int := findIx (fun p => decide (p.name = n)) s.lists 0
def grantIx (l : List Grant) (u : ByteArray) : Int := findIx (fun p => decide (p.user = u)) l 0
def profOf (s : Sec) (u : ByteArray) : Prof := nth s.profiles (profIx s u).toNat
def listOf (s : Sec) (n : ByteArray) : AList := nth s.lists (listIx s n).toNat
def authOf (l : List Grant) (u : ByteArray) : Int := (nth l (grantIx l u).toNat).auth

/-- What a profile has itself. -/
def itselfP (s : Sec) (u : ByteArray) (o : Secured) : Found × Bool :=
  if ¬ Go.bits .and .i64 (profOf s u).special 1 = 0 then (⟨1023, 0, u⟩, true)
  else if 0 ≤ grantIx o.grants u then (⟨authOf o.grants u, 1, u⟩, true)
  else if o.owner = u then (⟨1023, 2, u⟩, true)
  else if o.list = ⟨#[]⟩ then (⟨0, 0, ⟨#[]⟩⟩, false)
  else if 0 ≤ grantIx (listOf s o.list).grants u then (⟨authOf (listOf s o.list).grants u, 3, (listOf s o.list).name⟩, true)
  else (⟨1023, 4, (listOf s o.list).name⟩, decide ((listOf s o.list).owner = u))

theorem ix_facts {α : Type} {p : α → Bool} {l : List α} (h : 0 ≤ findIx p l 0) : findIx p l 0 < (l.length : Int) ∧ (findIx p l 0).toNat < l.length := by
  have := findIx_ge p l 0
  omega

/-- An object whose list, if it has one, is there. -/
def Listed (s : Sec) (o : Secured) : Prop := o.grants.length ≤ 1000000 ∧ (¬ o.list = ⟨#[]⟩ → 0 ≤ listIx s o.list)

set_option maxHeartbeats 4000000 in
theorem itself_good (s : Sec) (u : ByteArray) (o : Secured) (hs : Fit s) (hu : 0 ≤ profIx s u) (ho : Listed s o) :
    Ans Try.prog 101 [.agg (encSec s), .str u, .agg (encSecured o)] (.tup [.agg (encFound (itselfP s u o).1), .bool (itselfP s u o).2]) := by
  have hp0 : 0 ≤ findIx (fun p => decide (p.name = u)) s.profiles 0 := hu
  have hp1 := (ix_facts hp0).1; have hp2 := (ix_facts hp0).2
  have hpp : nth s.profiles (findIx (fun p => decide (p.name = u)) s.profiles 0).toNat = profOf s u := rfl
  refine good_run [] mixed Try.func101 rfl Try.ntmps101 (rs := [.cell 6 36, .tmp 7]) rfl (by decide +kernel) (by kernel_rfl) rfl ?_
  rw [startE_eq 77 _ _ _ rfl rfl]
  set_option maxRecDepth 100000 in simp (maxSteps := 10000000) only [go_sem, Nat.reduceAdd, Nat.reduceSub, Nat.reduceMul, Nat.reduceLT, Nat.reduceLeDiff, Nat.reduceEqDiff, Nat.reduceMod, Nat.reduceDiv, Int.reduceNeg, Int.reduceLE, Int.reduceLT, Int.reduceToNat, Int.reduceEq, Int.reduceNe, ↓reduceIte]
  refine callD_of (profile_good s _ hs.profiles) ?_
  set_option maxRecDepth 100000 in simp (maxSteps := 10000000) only [go_sem, Nat.reduceAdd, Nat.reduceSub, Nat.reduceMul, Nat.reduceLT, Nat.reduceLeDiff, Nat.reduceEqDiff, Nat.reduceMod, Nat.reduceDiv, Int.reduceNeg, Int.reduceLE, Int.reduceLT, Int.reduceToNat, Int.reduceEq, Int.reduceNe, ↓reduceIte,  hp0, hp1, hp2, hpp]
  refine ⟨by decide +kernel, ifI (fun h1 => ?_) fun h1 => ?_⟩
  · set_option maxRecDepth 100000 in simp (maxSteps := 10000000) only [go_sem, Nat.reduceAdd, Nat.reduceSub, Nat.reduceMul, Nat.reduceLT, Nat.reduceLeDiff, Nat.reduceEqDiff, Nat.reduceMod, Nat.reduceDiv, Int.reduceNeg, Int.reduceLE, Int.reduceLT, Int.reduceToNat, Int.reduceEq, Int.reduceNe, ↓reduceIte]
    have hI : itselfP s u o = (⟨1023, 0, u⟩, true) := by rw [itselfP, if_pos h1]
    simp [hI]
  set_option maxRecDepth 100000 in simp (maxSteps := 10000000) only [go_sem, Nat.reduceAdd, Nat.reduceSub, Nat.reduceMul, Nat.reduceLT, Nat.reduceLeDiff, Nat.reduceEqDiff, Nat.reduceMod, Nat.reduceDiv, Int.reduceNeg, Int.reduceLE, Int.reduceLT, Int.reduceToNat, Int.reduceEq, Int.reduceNe, ↓reduceIte]
  refine call_of (grant_good _ _ ho.1) ?_
  set_option maxRecDepth 100000 in simp (maxSteps := 10000000) only [go_sem, Nat.reduceAdd, Nat.reduceSub, Nat.reduceMul, Nat.reduceLT, Nat.reduceLeDiff, Nat.reduceEqDiff, Nat.reduceMod, Nat.reduceDiv, Int.reduceNeg, Int.reduceLE, Int.reduceLT, Int.reduceToNat, Int.reduceEq, Int.reduceNe, ↓reduceIte]
  refine ifI (fun h2 => ?_) fun h2 => ?_
  · have g1 := (ix_facts h2).1; have g2 := (ix_facts h2).2
    have h2' : 0 ≤ grantIx o.grants u := h2
    set_option maxRecDepth 100000 in simp (maxSteps := 10000000) only [go_sem, Nat.reduceAdd, Nat.reduceSub, Nat.reduceMul, Nat.reduceLT, Nat.reduceLeDiff, Nat.reduceEqDiff, Nat.reduceMod, Nat.reduceDiv, Int.reduceNeg, Int.reduceLE, Int.reduceLT, Int.reduceToNat, Int.reduceEq, Int.reduceNe, ↓reduceIte,  h2, g1, g2]
    have hI : itselfP s u o = (⟨authOf o.grants u, 1, u⟩, true) := by rw [itselfP, if_neg h1, if_pos h2']
    simp [hI, authOf, grantIx]
  have h2' : ¬ 0 ≤ grantIx o.grants u := h2
  set_option maxRecDepth 100000 in simp (maxSteps := 10000000) only [go_sem, Nat.reduceAdd, Nat.reduceSub, Nat.reduceMul, Nat.reduceLT, Nat.reduceLeDiff, Nat.reduceEqDiff, Nat.reduceMod, Nat.reduceDiv, Int.reduceNeg, Int.reduceLE, Int.reduceLT, Int.reduceToNat, Int.reduceEq, Int.reduceNe, ↓reduceIte]
  refine ifI (fun h3 => ?_) fun h3 => ?_
  · set_option maxRecDepth 100000 in simp (maxSteps := 10000000) only [go_sem, Nat.reduceAdd, Nat.reduceSub, Nat.reduceMul, Nat.reduceLT, Nat.reduceLeDiff, Nat.reduceEqDiff, Nat.reduceMod, Nat.reduceDiv, Int.reduceNeg, Int.reduceLE, Int.reduceLT, Int.reduceToNat, Int.reduceEq, Int.reduceNe, ↓reduceIte]
    have hI : itselfP s u o = (⟨1023, 2, u⟩, true) := by rw [itselfP, if_neg h1, if_neg h2', if_pos h3]
    simp [hI]
  set_option maxRecDepth 100000 in simp (maxSteps := 10000000) only [go_sem, Nat.reduceAdd, Nat.reduceSub, Nat.reduceMul, Nat.reduceLT, Nat.reduceLeDiff, Nat.reduceEqDiff, Nat.reduceMod, Nat.reduceDiv, Int.reduceNeg, Int.reduceLE, Int.reduceLT, Int.reduceToNat, Int.reduceEq, Int.reduceNe, ↓reduceIte]
  refine ifI (fun h4 => ?_) fun h4 => ?_
  · set_option maxRecDepth 100000 in simp (maxSteps := 10000000) only [go_sem, Nat.reduceAdd, Nat.reduceSub, Nat.reduceMul, Nat.reduceLT, Nat.reduceLeDiff, Nat.reduceEqDiff, Nat.reduceMod, Nat.reduceDiv, Int.reduceNeg, Int.reduceLE, Int.reduceLT, Int.reduceToNat, Int.reduceEq, Int.reduceNe, ↓reduceIte]
    have hI : itselfP s u o = (⟨0, 0, ⟨#[]⟩⟩, false) := by rw [itselfP, if_neg h1, if_neg h2', if_neg h3, if_pos h4]
    simp [hI]
  have hl0 : 0 ≤ findIx (fun p => decide (p.name = o.list)) s.lists 0 := ho.2 h4
  have hl1 := (ix_facts hl0).1; have hl2 := (ix_facts hl0).2
  set_option maxRecDepth 100000 in simp (maxSteps := 10000000) only [go_sem, Nat.reduceAdd, Nat.reduceSub, Nat.reduceMul, Nat.reduceLT, Nat.reduceLeDiff, Nat.reduceEqDiff, Nat.reduceMod, Nat.reduceDiv, Int.reduceNeg, Int.reduceLE, Int.reduceLT, Int.reduceToNat, Int.reduceEq, Int.reduceNe, ↓reduceIte]
  refine callD_of (list_good s _ hs.lists) ?_
  set_option maxRecDepth 100000 in simp (maxSteps := 10000000) only [go_sem, Nat.reduceAdd, Nat.reduceSub, Nat.reduceMul, Nat.reduceLT, Nat.reduceLeDiff, Nat.reduceEqDiff, Nat.reduceMod, Nat.reduceDiv, Int.reduceNeg, Int.reduceLE, Int.reduceLT, Int.reduceToNat, Int.reduceEq, Int.reduceNe, ↓reduceIte,  hl0, hl1, hl2]
  refine ⟨by decide +kernel, ?_⟩
  have hll : nth s.lists (findIx (fun p => decide (p.name = o.list)) s.lists 0).toNat = listOf s o.list := rfl
  set_option maxRecDepth 100000 in simp (maxSteps := 10000000) only [go_sem, Nat.reduceAdd, Nat.reduceSub, Nat.reduceMul, Nat.reduceLT, Nat.reduceLeDiff, Nat.reduceEqDiff, Nat.reduceMod, Nat.reduceDiv, Int.reduceNeg, Int.reduceLE, Int.reduceLT, Int.reduceToNat, Int.reduceEq, Int.reduceNe, ↓reduceIte,  hll]
  refine call_of (grant_good _ _ (hs.lgrants _ (nth_mem hl2))) ?_
  set_option maxRecDepth 100000 in simp (maxSteps := 10000000) only [go_sem, Nat.reduceAdd, Nat.reduceSub, Nat.reduceMul, Nat.reduceLT, Nat.reduceLeDiff, Nat.reduceEqDiff, Nat.reduceMod, Nat.reduceDiv, Int.reduceNeg, Int.reduceLE, Int.reduceLT, Int.reduceToNat, Int.reduceEq, Int.reduceNe, ↓reduceIte]
  refine ifI (fun h5 => ?_) fun h5 => ?_
  · have g1 := (ix_facts h5).1; have g2 := (ix_facts h5).2
    have h5' : 0 ≤ grantIx (listOf s o.list).grants u := h5
    set_option maxRecDepth 100000 in simp (maxSteps := 10000000) only [go_sem, Nat.reduceAdd, Nat.reduceSub, Nat.reduceMul, Nat.reduceLT, Nat.reduceLeDiff, Nat.reduceEqDiff, Nat.reduceMod, Nat.reduceDiv, Int.reduceNeg, Int.reduceLE, Int.reduceLT, Int.reduceToNat, Int.reduceEq, Int.reduceNe, ↓reduceIte,  h5, g1, g2]
    refine ⟨by decide +kernel, ?_⟩
    have hI : itselfP s u o = (⟨authOf (listOf s o.list).grants u, 3, (listOf s o.list).name⟩, true) := by rw [itselfP, if_neg h1, if_neg h2', if_neg h3, if_neg h4, if_pos h5']
    simp [hI, authOf, grantIx]
  · have h5' : ¬ 0 ≤ grantIx (listOf s o.list).grants u := h5
    set_option maxRecDepth 100000 in simp (maxSteps := 10000000) only [go_sem, Nat.reduceAdd, Nat.reduceSub, Nat.reduceMul, Nat.reduceLT, Nat.reduceLeDiff, Nat.reduceEqDiff, Nat.reduceMod, Nat.reduceDiv, Int.reduceNeg, Int.reduceLE, Int.reduceLT, Int.reduceToNat, Int.reduceEq, Int.reduceNe, ↓reduceIte]
    refine ⟨by decide +kernel, ?_⟩
    have hI : itselfP s u o = (⟨1023, 4, (listOf s o.list).name⟩, decide ((listOf s o.list).owner = u)) := by rw [itselfP, if_neg h1, if_neg h2', if_neg h3, if_neg h4, if_neg h5']
    simp [hI]

/-- The first string that is not empty. -/
def orS : List ByteArray → ByteArray
  | [] => ⟨#[]⟩
  | x :: l => if x = ⟨#[]⟩ then orS l else x
theorem OrS_good (l : List ByteArray) (h : l.length ≤ 1000000) : Ans Try.prog 102 [.sl (l.map encStr)] (.str (orS l)) := by
  refine good_run [(3, [2, 5, 9, 10, 11, 12, 13, 14, 15, 16], [])] mixed Try.func102 rfl Try.ntmps102 (rs := [.tmp 2]) rfl (by decide +kernel) (by kernel_rfl) rfl ?_
  rw [startE_eq 18 _ _ _ rfl rfl]
  set_option maxRecDepth 100000 in simp (maxSteps := 10000000) only [go_sem, Nat.reduceAdd, Nat.reduceSub, Nat.reduceMul, Nat.reduceLT, Nat.reduceLeDiff, Nat.reduceEqDiff, Nat.reduceMod, Nat.reduceDiv, Int.reduceNeg, Int.reduceLE, Int.reduceLT, Int.reduceToNat, Int.reduceEq, Int.reduceNe, ↓reduceIte]
  refine loop_by ([2, 5, 9, 10, 11, 12, 13, 14, 15, 16], []) (fun i : Nat => [(.s 8, .int .i64 (i : Int))]) (fun i => l.length - i) (fun i => i ≤ l.length ∧ orS l = orS (l.drop i)) 0 rfl ⟨Nat.zero_le _, rfl⟩ rfl ?_
  rintro c' st' hst i ⟨hi, hf⟩ ih
  set_option maxRecDepth 100000 in simp (maxSteps := 10000000) only [go_sem, Nat.reduceAdd, Nat.reduceSub, Nat.reduceMul, Nat.reduceLT, Nat.reduceLeDiff, Nat.reduceEqDiff, Nat.reduceMod, Nat.reduceDiv, Int.reduceNeg, Int.reduceLE, Int.reduceLT, Int.reduceToNat, Int.reduceEq, Int.reduceNe, ↓reduceIte]
  refine ifI (fun hlt => ?_) fun hlt => ?_
  · set_option maxRecDepth 100000 in simp (maxSteps := 10000000) only [go_sem, Nat.reduceAdd, Nat.reduceSub, Nat.reduceMul, Nat.reduceLT, Nat.reduceLeDiff, Nat.reduceEqDiff, Nat.reduceMod, Nat.reduceDiv, Int.reduceNeg, Int.reduceLE, Int.reduceLT, Int.reduceToNat, Int.reduceEq, Int.reduceNe, ↓reduceIte,  hlt]
    refine ifI (fun h1 => ?_) fun h1 => ?_
    · set_option maxRecDepth 100000 in simp (maxSteps := 10000000) only [go_sem, Nat.reduceAdd, Nat.reduceSub, Nat.reduceMul, Nat.reduceLT, Nat.reduceLeDiff, Nat.reduceEqDiff, Nat.reduceMod, Nat.reduceDiv, Int.reduceNeg, Int.reduceLE, Int.reduceLT, Int.reduceToNat, Int.reduceEq, Int.reduceNe, ↓reduceIte]
      rw [hf, drop_nth hlt, orS, if_neg h1]
    · set_option maxRecDepth 100000 in simp (maxSteps := 10000000) only [go_sem, Nat.reduceAdd, Nat.reduceSub, Nat.reduceMul, Nat.reduceLT, Nat.reduceLeDiff, Nat.reduceEqDiff, Nat.reduceMod, Nat.reduceDiv, Int.reduceNeg, Int.reduceLE, Int.reduceLT, Int.reduceToNat, Int.reduceEq, Int.reduceNe, ↓reduceIte]
      refine ih (i + 1) _ ⟨by omega, ?_⟩ (by omega) ?_
      · rw [hf, drop_nth hlt, orS, if_pos (Classical.not_not.1 h1)]
      · set_option maxRecDepth 100000 in simp (maxSteps := 10000000) only [go_sem, Nat.reduceAdd, Nat.reduceSub, Nat.reduceMul, Nat.reduceLT, Nat.reduceLeDiff, Nat.reduceEqDiff, Nat.reduceMod, Nat.reduceDiv, Int.reduceNeg, Int.reduceLE, Int.reduceLT, Int.reduceToNat, Int.reduceEq, Int.reduceNe, ↓reduceIte,  wrap_succ (show i < 9223372036854775807 by omega)]
  · subst hst
    set_option maxRecDepth 100000 in simp (maxSteps := 10000000) only [go_sem, Nat.reduceAdd, Nat.reduceSub, Nat.reduceMul, Nat.reduceLT, Nat.reduceLeDiff, Nat.reduceEqDiff, Nat.reduceMod, Nat.reduceDiv, Int.reduceNeg, Int.reduceLE, Int.reduceLT, Int.reduceToNat, Int.reduceEq, Int.reduceNe, ↓reduceIte]
    rw [hf, List.drop_eq_nil_of_le (by omega)]; rfl
theorem OrS2_good (a b : ByteArray) : Ans Try.prog 102 [.sl [[.str a], [.str b]]] (.str (if a = ⟨#[]⟩ then b else a)) := by
  have h := OrS_good [a, b] (by simp)
  have e : orS [a, b] = if a = ⟨#[]⟩ then b else a := by
    simp only [orS]; split
    · split
      · rename_i h2; rw [h2]
      · rfl
    · rfl
  rw [e] at h; exact h

/-- What the groups have together, and the first of them that has something. -/
def grpA (s : Sec) (o : Secured) : List ByteArray → Int → ByteArray → Int × ByteArray
  | [], a, b => (a, b)
  | g :: l, a, b => if (itselfP s g o).2 = true then grpA s o l (Go.bits .or .i64 a (itselfP s g o).1.auth) (if b = ⟨#[]⟩ then g else b) else grpA s o l a b
def star : ByteArray := ⟨#[42, 80, 85, 66, 76, 73, 67]⟩
def publicOf (s : Sec) (o : Secured) : Int := if o.byList = true then (listOf s o.list).pub else o.pub
def authorityP (s : Sec) (u : ByteArray) (o : Secured) : Found :=
  if (itselfP s u o).2 = true then (itselfP s u o).1
  else if ¬ (grpA s o (profOf s u).groups 0 ⟨#[]⟩).2 = ⟨#[]⟩ then ⟨(grpA s o (profOf s u).groups 0 ⟨#[]⟩).1, 5, (grpA s o (profOf s u).groups 0 ⟨#[]⟩).2⟩
  else ⟨publicOf s o, 6, star⟩

def Grouped (s : Sec) : Prop := ∀ p ∈ s.profiles, ∀ g ∈ p.groups, 0 ≤ profIx s g

set_option maxHeartbeats 4000000 in
theorem authority_good (s : Sec) (u : ByteArray) (o : Secured) (hs : Fit s) (hg : Grouped s) (hu : 0 ≤ profIx s u) (ho : Listed s o) (hb : o.byList = true → ¬ o.list = ⟨#[]⟩) :
    Ans Try.prog 70 [.agg (encSec s), .str u, .agg (encSecured o)] (.agg (encFound (authorityP s u o))) := by
  have hp0 : 0 ≤ findIx (fun p => decide (p.name = u)) s.profiles 0 := hu
  have hp1 := (ix_facts hp0).1; have hp2 := (ix_facts hp0).2
  have hpp : nth s.profiles (findIx (fun p => decide (p.name = u)) s.profiles 0).toNat = profOf s u := rfl
  have hmem : profOf s u ∈ s.profiles := nth_mem hp2
  refine good_run [(6, [11, 12, 13, 34, 35, 36, 37, 38, 39, 40, 41, 42, 43, 44, 45, 46, 47, 48, 49, 50, 51, 52, 53, 54, 55, 56, 57], [12, 54])] mixed Try.func70 rfl Try.ntmps70 (rs := [.cell 6 36]) rfl (by decide +kernel) (by kernel_rfl) rfl ?_
  rw [startE_eq 78 _ _ _ rfl rfl]
  set_option maxRecDepth 100000 in simp (maxSteps := 10000000) only [go_sem, Nat.reduceAdd, Nat.reduceSub, Nat.reduceMul, Nat.reduceLT, Nat.reduceLeDiff, Nat.reduceEqDiff, Nat.reduceMod, Nat.reduceDiv, Int.reduceNeg, Int.reduceLE, Int.reduceLT, Int.reduceToNat, Int.reduceEq, Int.reduceNe, ↓reduceIte]
  refine call_of (itself_good s u o hs hu ho) ?_
  set_option maxRecDepth 100000 in simp (maxSteps := 10000000) only [go_sem, Nat.reduceAdd, Nat.reduceSub, Nat.reduceMul, Nat.reduceLT, Nat.reduceLeDiff, Nat.reduceEqDiff, Nat.reduceMod, Nat.reduceDiv, Int.reduceNeg, Int.reduceLE, Int.reduceLT, Int.reduceToNat, Int.reduceEq, Int.reduceNe, ↓reduceIte]
  refine ifI (fun h1 => ?_) fun h1 => ?_
  · set_option maxRecDepth 100000 in simp (maxSteps := 10000000) only [go_sem, Nat.reduceAdd, Nat.reduceSub, Nat.reduceMul, Nat.reduceLT, Nat.reduceLeDiff, Nat.reduceEqDiff, Nat.reduceMod, Nat.reduceDiv, Int.reduceNeg, Int.reduceLE, Int.reduceLT, Int.reduceToNat, Int.reduceEq, Int.reduceNe, ↓reduceIte]
    have hI : authorityP s u o = (itselfP s u o).1 := by rw [authorityP, if_pos h1]
    simp [hI]
  set_option maxRecDepth 100000 in simp (maxSteps := 10000000) only [go_sem, Nat.reduceAdd, Nat.reduceSub, Nat.reduceMul, Nat.reduceLT, Nat.reduceLeDiff, Nat.reduceEqDiff, Nat.reduceMod, Nat.reduceDiv, Int.reduceNeg, Int.reduceLE, Int.reduceLT, Int.reduceToNat, Int.reduceEq, Int.reduceNe, ↓reduceIte]
  refine callD_of (profile_good s _ hs.profiles) ?_
  set_option maxRecDepth 100000 in simp (maxSteps := 10000000) only [go_sem, Nat.reduceAdd, Nat.reduceSub, Nat.reduceMul, Nat.reduceLT, Nat.reduceLeDiff, Nat.reduceEqDiff, Nat.reduceMod, Nat.reduceDiv, Int.reduceNeg, Int.reduceLE, Int.reduceLT, Int.reduceToNat, Int.reduceEq, Int.reduceNe, ↓reduceIte,  hp0, hp1, hp2, hpp]
  refine ⟨by decide +kernel, ?_⟩
  refine loop_by ([11, 12, 13, 34, 35, 36, 37, 38, 39, 40, 41, 42, 43, 44, 45, 46, 47, 48, 49, 50, 51, 52, 53, 54, 55, 56, 57], [12, 54]) (fun x : Nat × Nat × Int × ByteArray => [(.s 33, .int .i64 (x.1 : Int)), (.o 12, deadV x.1), (.o 54, deadV x.2.1), (.o 9, .obj 1 36 3 false false [[.int .i64 x.2.2.1, .int .i64 5, .str x.2.2.2]])])
    (fun x => (profOf s u).groups.length - x.1) (fun x => x.1 ≤ (profOf s u).groups.length ∧ grpA s o (profOf s u).groups 0 ⟨#[]⟩ = grpA s o ((profOf s u).groups.drop x.1) x.2.2.1 x.2.2.2) (0, 0, 0, ⟨#[]⟩) rfl ⟨Nat.zero_le _, rfl⟩ ?_ ?_
  · set_option maxRecDepth 100000 in simp (maxSteps := 10000000) only [go_sem, Nat.reduceAdd, Nat.reduceSub, Nat.reduceMul, Nat.reduceLT, Nat.reduceLeDiff, Nat.reduceEqDiff, Nat.reduceMod, Nat.reduceDiv, Int.reduceNeg, Int.reduceLE, Int.reduceLT, Int.reduceToNat, Int.reduceEq, Int.reduceNe, ↓reduceIte]
  rintro c' st' hst ⟨i, m, a, b⟩ ⟨hi, hf⟩ ih
  simp only at hi hf
  set_option maxRecDepth 100000 in simp (maxSteps := 10000000) only [go_sem, Nat.reduceAdd, Nat.reduceSub, Nat.reduceMul, Nat.reduceLT, Nat.reduceLeDiff, Nat.reduceEqDiff, Nat.reduceMod, Nat.reduceDiv, Int.reduceNeg, Int.reduceLE, Int.reduceLT, Int.reduceToNat, Int.reduceEq, Int.reduceNe, ↓reduceIte]
  refine ifI (fun hlt => ?_) fun hlt => ?_
  · have hgl := hs.groups _ hmem
    set_option maxRecDepth 100000 in simp (maxSteps := 10000000) only [go_sem, Nat.reduceAdd, Nat.reduceSub, Nat.reduceMul, Nat.reduceLT, Nat.reduceLeDiff, Nat.reduceEqDiff, Nat.reduceMod, Nat.reduceDiv, Int.reduceNeg, Int.reduceLE, Int.reduceLT, Int.reduceToNat, Int.reduceEq, Int.reduceNe, ↓reduceIte,  hlt]
    refine call_of (itself_good s _ o hs (hg _ hmem _ (nth_mem hlt)) ho) ?_
    set_option maxRecDepth 100000 in simp (maxSteps := 10000000) only [go_sem, Nat.reduceAdd, Nat.reduceSub, Nat.reduceMul, Nat.reduceLT, Nat.reduceLeDiff, Nat.reduceEqDiff, Nat.reduceMod, Nat.reduceDiv, Int.reduceNeg, Int.reduceLE, Int.reduceLT, Int.reduceToNat, Int.reduceEq, Int.reduceNe, ↓reduceIte]
    refine ifI (fun h2 => ?_) fun h2 => ?_
    · set_option maxRecDepth 100000 in simp (maxSteps := 10000000) only [go_sem, Nat.reduceAdd, Nat.reduceSub, Nat.reduceMul, Nat.reduceLT, Nat.reduceLeDiff, Nat.reduceEqDiff, Nat.reduceMod, Nat.reduceDiv, Int.reduceNeg, Int.reduceLE, Int.reduceLT, Int.reduceToNat, Int.reduceEq, Int.reduceNe, ↓reduceIte]
      refine call_of (OrS2_good b _) ?_
      set_option maxRecDepth 100000 in simp (maxSteps := 10000000) only [go_sem, Nat.reduceAdd, Nat.reduceSub, Nat.reduceMul, Nat.reduceLT, Nat.reduceLeDiff, Nat.reduceEqDiff, Nat.reduceMod, Nat.reduceDiv, Int.reduceNeg, Int.reduceLE, Int.reduceLT, Int.reduceToNat, Int.reduceEq, Int.reduceNe, ↓reduceIte]
      refine ih (i + 1, m + 1, Go.bits .or .i64 a (itselfP s (nth (profOf s u).groups i) o).1.auth, if b = ⟨#[]⟩ then nth (profOf s u).groups i else b) _ ⟨by simp only; omega, ?_⟩ (by simp only; omega) ?_
      · simp only
        rw [hf, drop_nth hlt, grpA, if_pos h2]
      · set_option maxRecDepth 100000 in simp (maxSteps := 10000000) only [go_sem, Nat.reduceAdd, Nat.reduceSub, Nat.reduceMul, Nat.reduceLT, Nat.reduceLeDiff, Nat.reduceEqDiff, Nat.reduceMod, Nat.reduceDiv, Int.reduceNeg, Int.reduceLE, Int.reduceLT, Int.reduceToNat, Int.reduceEq, Int.reduceNe, ↓reduceIte,  wrap_succ (show i < 9223372036854775807 by omega)]
    · set_option maxRecDepth 100000 in simp (maxSteps := 10000000) only [go_sem, Nat.reduceAdd, Nat.reduceSub, Nat.reduceMul, Nat.reduceLT, Nat.reduceLeDiff, Nat.reduceEqDiff, Nat.reduceMod, Nat.reduceDiv, Int.reduceNeg, Int.reduceLE, Int.reduceLT, Int.reduceToNat, Int.reduceEq, Int.reduceNe, ↓reduceIte]
      refine ih (i + 1, m, a, b) _ ⟨by simp only; omega, ?_⟩ (by simp only; omega) ?_
      · simp only
        rw [hf, drop_nth hlt, grpA, if_neg h2]
      · set_option maxRecDepth 100000 in simp (maxSteps := 10000000) only [go_sem, Nat.reduceAdd, Nat.reduceSub, Nat.reduceMul, Nat.reduceLT, Nat.reduceLeDiff, Nat.reduceEqDiff, Nat.reduceMod, Nat.reduceDiv, Int.reduceNeg, Int.reduceLE, Int.reduceLT, Int.reduceToNat, Int.reduceEq, Int.reduceNe, ↓reduceIte,  wrap_succ (show i < 9223372036854775807 by omega)]
  subst hst
  rw [List.drop_eq_nil_of_le (by omega)] at hf
  simp only [grpA] at hf
  set_option maxRecDepth 100000 in simp (maxSteps := 10000000) only [go_sem, Nat.reduceAdd, Nat.reduceSub, Nat.reduceMul, Nat.reduceLT, Nat.reduceLeDiff, Nat.reduceEqDiff, Nat.reduceMod, Nat.reduceDiv, Int.reduceNeg, Int.reduceLE, Int.reduceLT, Int.reduceToNat, Int.reduceEq, Int.reduceNe, ↓reduceIte]
  refine ifI (fun h3 => ?_) fun h3 => ?_
  · set_option maxRecDepth 100000 in simp (maxSteps := 10000000) only [go_sem, Nat.reduceAdd, Nat.reduceSub, Nat.reduceMul, Nat.reduceLT, Nat.reduceLeDiff, Nat.reduceEqDiff, Nat.reduceMod, Nat.reduceDiv, Int.reduceNeg, Int.reduceLE, Int.reduceLT, Int.reduceToNat, Int.reduceEq, Int.reduceNe, ↓reduceIte]
    have hI : authorityP s u o = ⟨a, 5, b⟩ := by rw [authorityP, if_neg h1, hf, if_pos h3]
    simp [hI]
  set_option maxRecDepth 100000 in simp (maxSteps := 10000000) only [go_sem, Nat.reduceAdd, Nat.reduceSub, Nat.reduceMul, Nat.reduceLT, Nat.reduceLeDiff, Nat.reduceEqDiff, Nat.reduceMod, Nat.reduceDiv, Int.reduceNeg, Int.reduceLE, Int.reduceLT, Int.reduceToNat, Int.reduceEq, Int.reduceNe, ↓reduceIte]
  refine ifI (fun h4 => ?_) fun h4 => ?_
  · have hl0 : 0 ≤ findIx (fun p => decide (p.name = o.list)) s.lists 0 := ho.2 (hb h4)
    have hl1 := (ix_facts hl0).1; have hl2 := (ix_facts hl0).2
    set_option maxRecDepth 100000 in simp (maxSteps := 10000000) only [go_sem, Nat.reduceAdd, Nat.reduceSub, Nat.reduceMul, Nat.reduceLT, Nat.reduceLeDiff, Nat.reduceEqDiff, Nat.reduceMod, Nat.reduceDiv, Int.reduceNeg, Int.reduceLE, Int.reduceLT, Int.reduceToNat, Int.reduceEq, Int.reduceNe, ↓reduceIte]
    refine callD_of (list_good s _ hs.lists) ?_
    set_option maxRecDepth 100000 in simp (maxSteps := 10000000) only [go_sem, Nat.reduceAdd, Nat.reduceSub, Nat.reduceMul, Nat.reduceLT, Nat.reduceLeDiff, Nat.reduceEqDiff, Nat.reduceMod, Nat.reduceDiv, Int.reduceNeg, Int.reduceLE, Int.reduceLT, Int.reduceToNat, Int.reduceEq, Int.reduceNe, ↓reduceIte,  hl0, hl1, hl2]
    refine ⟨by decide +kernel, ?_⟩
    have hI : authorityP s u o = ⟨(listOf s o.list).pub, 6, star⟩ := by rw [authorityP, if_neg h1, hf, if_neg h3, publicOf, if_pos h4]
    simp [hI, star, listOf, listIx]
  · set_option maxRecDepth 100000 in simp (maxSteps := 10000000) only [go_sem, Nat.reduceAdd, Nat.reduceSub, Nat.reduceMul, Nat.reduceLT, Nat.reduceLeDiff, Nat.reduceEqDiff, Nat.reduceMod, Nat.reduceDiv, Int.reduceNeg, Int.reduceLE, Int.reduceLT, Int.reduceToNat, Int.reduceEq, Int.reduceNe, ↓reduceIte]
    have hI : authorityP s u o = ⟨o.pub, 6, star⟩ := by rw [authorityP, if_neg h1, hf, if_neg h3, publicOf, if_neg h4]
    simp [hI, star]
end Go.Proofs.Ytdmcmfdmnlckdaa.C10
