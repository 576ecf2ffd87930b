/- Chapter 10: copies in memory of their own. -/
import Derived.Test.YtbhgehhmjpipiaaGreatDoorF10
import Derived.Laws.BitsLemmas
set_option linter.unusedSimpArgs false
namespace Go.Proofs.YtbhgehhmjpipiaaGreatDoor.C10
open Go Go.Proofs Go.Proofs.YtbhgehhmjpipiaaGreatDoor.Ab
set_option maxRecDepth 100000
attribute [local congr] ite_ctx
theorem take_snoc {α : Type} [Inhabited α] {l : List α} {i : Nat} (h : i < l.length) : l.take i ++ [nth l i] = l.take (i + 1) := by
 rw [List.take_add_one, List.getElem?_eq_getElem h, nth_eq h]; rfl
theorem fits_take {α : Type} {l : List α} {i b : Nat} (hl : l.length ≤ 1000000) (hb : b ≤ 1000) : ((l.take i).length + 1) * b ≤ 140737488355328 ∧ (l.take i).length + 1 ≤ maxLen := by
 have h1 : (l.take i).length ≤ 1000000 := by rw [List.length_take]; omega
 have h2 : ((l.take i).length + 1) * b ≤ 1000001 * 1000 := Nat.mul_le_mul (by omega) hb
 unfold maxLen
 exact ⟨by omega, by omega⟩
theorem row_snoc {α : Type} [Inhabited α] {f : α → List AV} {l : List α} {i : Nat} (h : i < l.length) : List.map f (List.take (i + 1) l) = List.map f (List.take i l) ++ [f (nth l i)] := by
 rw [← take_snoc h, List.map_append]; rfl
set_option maxHeartbeats 8000000 in
theorem Own_good (s : Sec) (hs : Fit s) : Ans Tryz.prog 38 [.agg (encSec s)] (.agg (encSec s)) := by
 refine good_run [(15, [9, 55, 56, 57, 58, 59, 60, 61, 62, 63, 64, 65, 66, 67, 68, 69, 70, 71, 72, 73, 74, 75, 76], [9, 69, 74, 301308127075]), (9, [7, 33, 34, 35, 36, 37, 38, 39, 40, 41, 42, 43, 44, 45, 46, 47, 48, 49, 50, 51, 52, 53, 54], [7, 47, 52, 201304130053]), (3, [5, 11, 12, 13, 14, 15, 16, 17, 18, 19, 20, 21, 22, 23, 24, 25, 26, 27, 28, 29, 30, 31, 32], [5, 30, 101303120031])] mixed Tryz.func38 rfl Tryz.ntmps38 (rs := [.cell 2 26]) rfl (by decide +kernel) (by kernel_rfl) rfl ?_
 rw [startE_eq 78 _ _ _ rfl rfl]
 simp only [go_sem, seval]
 refine loop_by ([5, 11, 12, 13, 14, 15, 16, 17, 18, 19, 20, 21, 22, 23, 24, 25, 26, 27, 28, 29, 30, 31, 32], [5, 30, 101303120031]) (fun i : Nat => [(.s 4, .int .i64 (i : Int)), (.o 5, deadV i), (.o 30, deadV i), (.o 31, .obj (i + 1) 120 3 false true ((s.profiles.take i).map encProf)), (.o 3, .obj 1 26 3 false false [[.ref 31 (i + 1), .nils, .nils]])]) (fun i => s.profiles.length - i) (fun i => i ≤ s.profiles.length) 0 rfl (Nat.zero_le _) ?_ ?_
 · simp only [go_sem, seval]
 rintro c' st' hst i0 hi ih
 simp only [go_sem, seval]
 refine ifI (fun hlt => ?_) fun hlt => ?_
 · simp only [go_sem, seval, hlt]
   refine call_of (CopyStrings_good _ (hs.groups _ (nth_mem hlt))) ?_
   simp only [go_sem, seval, (fits_take (i := i0) hs.profiles (show 48 ≤ 1000 by decide)).1, (fits_take (i := i0) hs.profiles (show 48 ≤ 1000 by decide)).2]
   have hr := row_snoc (f := encProf) hlt
   simp only [encProf] at hr
   refine ih (i0 + 1) _ (by omega) (by omega) ?_
   simp only [go_sem, seval, wrap_succ (show i0 < 9223372036854775807 by have := hs.profiles; omega), hr]
 have hn1 : s.profiles.length ≤ i0 := by omega
 subst hst
 clear ih hi hlt
 simp only [go_sem, seval, List.take_of_length_le hn1]
 refine loop_by ([7, 33, 34, 35, 36, 37, 38, 39, 40, 41, 42, 43, 44, 45, 46, 47, 48, 49, 50, 51, 52, 53, 54], [7, 47, 52, 201304130053]) (fun i : Nat => [(.s 6, .int .i64 (i : Int)), (.o 7, deadV i), (.o 47, deadV i), (.o 52, deadV i), (.o 53, .obj (i + 1) 130 4 false true ((s.lists.take i).map encAList)), (.o 3, .obj 1 26 3 false false [[.ref 31 (i0 + 1), .ref 53 (i + 1), .nils]])]) (fun i => s.lists.length - i) (fun i => i ≤ s.lists.length) 0 rfl (Nat.zero_le _) ?_ ?_
 · simp only [go_sem, seval]
 rintro c' st' hst i1 hi ih
 simp only [go_sem, seval]
 refine ifI (fun hlt => ?_) fun hlt => ?_
 · have hg := hs.lgrants _ (nth_mem hlt)
   simp only [go_sem, seval, hlt, show (nth s.lists i1).grants.length * 24 ≤ 140737488355328 by omega, show (nth s.lists i1).grants.length ≤ maxLen by unfold maxLen; omega, (fits_take (i := i1) hs.lists (show 64 ≤ 1000 by decide)).1, (fits_take (i := i1) hs.lists (show 64 ≤ 1000 by decide)).2]
   have hr := row_snoc (f := encAList) hlt
   simp only [encAList] at hr
   refine ih (i1 + 1) _ (by omega) (by omega) ?_
   simp only [go_sem, seval, wrap_succ (show i1 < 9223372036854775807 by have := hs.lists; omega), hr]
 have hn2 : s.lists.length ≤ i1 := by omega
 subst hst
 clear ih hi hlt
 simp only [go_sem, seval, List.take_of_length_le hn2]
 refine loop_by ([9, 55, 56, 57, 58, 59, 60, 61, 62, 63, 64, 65, 66, 67, 68, 69, 70, 71, 72, 73, 74, 75, 76], [9, 69, 74, 301308127075]) (fun i : Nat => [(.s 8, .int .i64 (i : Int)), (.o 9, deadV i), (.o 69, deadV i), (.o 74, deadV i), (.o 75, .obj (i + 1) 127 8 false true ((s.objects.take i).map encSecured)), (.o 3, .obj 1 26 3 false false [[.ref 31 (i0 + 1), .ref 53 (i1 + 1), .ref 75 (i + 1)]])]) (fun i => s.objects.length - i) (fun i => i ≤ s.objects.length) 0 rfl (Nat.zero_le _) ?_ ?_
 · simp only [go_sem, seval]
 rintro c' st' hst i2 hi ih
 simp only [go_sem, seval]
 refine ifI (fun hlt => ?_) fun hlt => ?_
 · have hg := hs.ogrants _ (nth_mem hlt)
   simp only [go_sem, seval, hlt, show (nth s.objects i2).grants.length * 24 ≤ 140737488355328 by omega, show (nth s.objects i2).grants.length ≤ maxLen by unfold maxLen; omega, (fits_take (i := i2) hs.objects (show 112 ≤ 1000 by decide)).1, (fits_take (i := i2) hs.objects (show 112 ≤ 1000 by decide)).2]
   have hr := row_snoc (f := encSecured) hlt
   simp only [encSecured] at hr
   refine ih (i2 + 1) _ (by omega) (by omega) ?_
   simp only [go_sem, seval, wrap_succ (show i2 < 9223372036854775807 by have := hs.objects; omega), hr]
 have hn3 : s.objects.length ≤ i2 := by omega
 subst hst
 clear ih hi hlt
 simp only [go_sem, seval, List.take_of_length_le hn3]
set_option maxRecDepth 100000
def nov : ByteArray := ⟨#[]⟩
def listIx (s : Sec) (n : ByteArray) : Int := findIx (fun p => decide (p.name = n)) s.lists 0
def grantIx (l : List Grant) (u : ByteArray) : Int := findIx (fun p => decide (p.user = u)) l 0
def profOf (s : Sec) (u : ByteArray) : Prof := nth s.profiles (profIx s u).toNat
def listOf (s : Sec) (n : ByteArray) : AList := nth s.lists (listIx s n).toNat
def authOf (l : List Grant) (u : ByteArray) : Int := (nth l (grantIx l u).toNat).auth
def itselfP (s : Sec) (u : ByteArray) (o : Secured) : Found × Bool :=
 if ¬ Go.bits .and .i64 (profOf s u).special 1 = 0 then (⟨1023, 0, u⟩, true)
 else if 0 ≤ grantIx o.grants u then (⟨authOf o.grants u, 1, u⟩, true)
 else if o.owner = u then (⟨1023, 2, u⟩, true)
 else if o.list = ⟨#[]⟩ then (⟨0, 0, ⟨#[]⟩⟩, false)
 else if 0 ≤ grantIx (listOf s o.list).grants u then (⟨authOf (listOf s o.list).grants u, 3, (listOf s o.list).name⟩, true)
 else (⟨1023, 4, (listOf s o.list).name⟩, decide ((listOf s o.list).owner = u))
theorem ix_facts {α : Type} {p : α → Bool} {l : List α} (h : 0 ≤ findIx p l 0) : findIx p l 0 < (l.length : Int) ∧ (findIx p l 0).toNat < l.length := by
 have := findIx_ge p l 0
 omega
def Listed (s : Sec) (o : Secured) : Prop := o.grants.length ≤ 1000000 ∧ (¬ o.list = ⟨#[]⟩ → 0 ≤ listIx s o.list)
set_option maxHeartbeats 4000000 in
theorem itself_good (s : Sec) (u : ByteArray) (o : Secured) (hs : Fit s) (hu : 0 ≤ profIx s u) (ho : Listed s o) :
 Ans Tryz.prog 188 [.agg (encSec s), .str u, .agg (encSecured o)] (.tup [.agg (encFound (itselfP s u o).1), .bool (itselfP s u o).2]) := by
 have hp0 : 0 ≤ findIx (fun p => decide (p.name = u)) s.profiles 0 := hu
 have hp1 := (ix_facts hp0).1; have hp2 := (ix_facts hp0).2
 have hpp : nth s.profiles (findIx (fun p => decide (p.name = u)) s.profiles 0).toNat = profOf s u := rfl
 refine good_run [] mixed Tryz.func188 rfl Tryz.ntmps188 (rs := [.cell 6 111, .tmp 7]) rfl (by decide +kernel) (by kernel_rfl) rfl ?_
 rw [startE_eq 77 _ _ _ rfl rfl]
 simp only [go_sem, seval]
 refine callD_of (profile_good s _ hs.profiles) ?_
 simp only [go_sem, seval, hp0, hp1, hp2, hpp]
 refine ⟨by decide +kernel, ifI (fun h1 => ?_) fun h1 => ?_⟩
 · simp only [go_sem, seval]
   have hI : itselfP s u o = (⟨1023, 0, u⟩, true) := by rw [itselfP, if_pos h1]
   simp [hI]
 simp only [go_sem, seval]
 refine call_of (grant_good _ _ ho.1) ?_
 simp only [go_sem, seval]
 refine ifI (fun h2 => ?_) fun h2 => ?_
 · have g1 := (ix_facts h2).1; have g2 := (ix_facts h2).2
   have h2' : 0 ≤ grantIx o.grants u := h2
   simp only [go_sem, seval, h2, g1, g2]
   have hI : itselfP s u o = (⟨authOf o.grants u, 1, u⟩, true) := by rw [itselfP, if_neg h1, if_pos h2']
   simp [hI, authOf, grantIx]
 have h2' : ¬ 0 ≤ grantIx o.grants u := h2
 simp only [go_sem, seval]
 refine ifI (fun h3 => ?_) fun h3 => ?_
 · simp only [go_sem, seval]
   have hI : itselfP s u o = (⟨1023, 2, u⟩, true) := by rw [itselfP, if_neg h1, if_neg h2', if_pos h3]
   simp [hI]
 simp only [go_sem, seval]
 refine ifI (fun h4 => ?_) fun h4 => ?_
 · simp only [go_sem, seval]
   have hI : itselfP s u o = (⟨0, 0, ⟨#[]⟩⟩, false) := by rw [itselfP, if_neg h1, if_neg h2', if_neg h3, if_pos h4]
   simp [hI]
 have hl0 : 0 ≤ findIx (fun p => decide (p.name = o.list)) s.lists 0 := ho.2 h4
 have hl1 := (ix_facts hl0).1; have hl2 := (ix_facts hl0).2
 simp only [go_sem, seval]
 refine callD_of (list_good s _ hs.lists) ?_
 simp only [go_sem, seval, hl0, hl1, hl2]
 refine ⟨by decide +kernel, ?_⟩
 have hll : nth s.lists (findIx (fun p => decide (p.name = o.list)) s.lists 0).toNat = listOf s o.list := rfl
 simp only [go_sem, seval, hll]
 refine call_of (grant_good _ _ (hs.lgrants _ (nth_mem hl2))) ?_
 simp only [go_sem, seval]
 refine ifI (fun h5 => ?_) fun h5 => ?_
 · have g1 := (ix_facts h5).1; have g2 := (ix_facts h5).2
   have h5' : 0 ≤ grantIx (listOf s o.list).grants u := h5
   simp only [go_sem, seval, h5, g1, g2]
   refine ⟨by decide +kernel, ?_⟩
   have hI : itselfP s u o = (⟨authOf (listOf s o.list).grants u, 3, (listOf s o.list).name⟩, true) := by rw [itselfP, if_neg h1, if_neg h2', if_neg h3, if_neg h4, if_pos h5']
   simp [hI, authOf, grantIx]
 · have h5' : ¬ 0 ≤ grantIx (listOf s o.list).grants u := h5
   simp only [go_sem, seval]
   refine ⟨by decide +kernel, ?_⟩
   have hI : itselfP s u o = (⟨1023, 4, (listOf s o.list).name⟩, decide ((listOf s o.list).owner = u)) := by rw [itselfP, if_neg h1, if_neg h2', if_neg h3, if_neg h4, if_neg h5']
   simp [hI]
def orS : List ByteArray → ByteArray
 | [] => ⟨#[]⟩
 | x :: l => if x = ⟨#[]⟩ then orS l else x
theorem OrS_good (l : List ByteArray) (h : l.length ≤ 1000000) : Ans Tryz.prog 189 [.sl (l.map encStr)] (.str (orS l)) := by
 refine good_run [(3, [2, 5, 9, 10, 11, 12, 13, 14, 15, 16], [])] mixed Tryz.func189 rfl Tryz.ntmps189 (rs := [.tmp 2]) rfl (by decide +kernel) (by kernel_rfl) rfl ?_
 rw [startE_eq 18 _ _ _ rfl rfl]
 simp only [go_sem, seval]
 refine loop_by ([2, 5, 9, 10, 11, 12, 13, 14, 15, 16], []) (fun i : Nat => [(.s 8, .int .i64 (i : Int))]) (fun i => l.length - i) (fun i => i ≤ l.length ∧ orS l = orS (l.drop i)) 0 rfl ⟨Nat.zero_le _, rfl⟩ rfl ?_
 rintro c' st' hst i ⟨hi, hf⟩ ih
 simp only [go_sem, seval]
 refine ifI (fun hlt => ?_) fun hlt => ?_
 · simp only [go_sem, seval, hlt]
   refine ifI (fun h1 => ?_) fun h1 => ?_
   · simp only [go_sem, seval]
     rw [hf, drop_nth hlt, orS, if_neg h1]
   · simp only [go_sem, seval]
     refine ih (i + 1) _ ⟨by omega, ?_⟩ (by omega) ?_
     · rw [hf, drop_nth hlt, orS, if_pos (Classical.not_not.1 h1)]
     · simp only [go_sem, seval, wrap_succ (show i < 9223372036854775807 by omega)]
 · subst hst
   simp only [go_sem, seval]
   rw [hf, List.drop_eq_nil_of_le (by omega)]; rfl
theorem OrS2_good (a b : ByteArray) : Ans Tryz.prog 189 [.sl [[.str a], [.str b]]] (.str (if a = ⟨#[]⟩ then b else a)) := by
 have h := OrS_good [a, b] (by simp)
 have e : orS [a, b] = if a = ⟨#[]⟩ then b else a := by
  simp only [orS]; split
  · split
    · rename_i h2; rw [h2]
    · rfl
  · rfl
 rw [e] at h; exact h
def grpA (s : Sec) (o : Secured) : List ByteArray → Int → ByteArray → Int × ByteArray
 | [], a, b => (a, b)
 | g :: l, a, b => if (itselfP s g o).2 = true then grpA s o l (Go.bits .or .i64 a (itselfP s g o).1.auth) (if b = ⟨#[]⟩ then g else b) else grpA s o l a b
def star : ByteArray := ⟨#[42, 80, 85, 66, 76, 73, 67]⟩
def publicOf (s : Sec) (o : Secured) : Int := if o.byList = true then (listOf s o.list).pub else o.pub
def authorityP (s : Sec) (u : ByteArray) (o : Secured) : Found :=
 if (itselfP s u o).2 = true then (itselfP s u o).1
 else if ¬ (grpA s o (profOf s u).groups 0 ⟨#[]⟩).2 = ⟨#[]⟩ then ⟨(grpA s o (profOf s u).groups 0 ⟨#[]⟩).1, 5, (grpA s o (profOf s u).groups 0 ⟨#[]⟩).2⟩
 else ⟨publicOf s o, 6, star⟩
def Grouped (s : Sec) : Prop := ∀ p ∈ s.profiles, ∀ g ∈ p.groups, 0 ≤ profIx s g
set_option maxHeartbeats 4000000 in
theorem authority_good (s : Sec) (u : ByteArray) (o : Secured) (hs : Fit s) (hg : Grouped s) (hu : 0 ≤ profIx s u) (ho : Listed s o) (hb : o.byList = true → ¬ o.list = ⟨#[]⟩) :
 Ans Tryz.prog 156 [.agg (encSec s), .str u, .agg (encSecured o)] (.agg (encFound (authorityP s u o))) := by
 have hp0 : 0 ≤ findIx (fun p => decide (p.name = u)) s.profiles 0 := hu
 have hp1 := (ix_facts hp0).1; have hp2 := (ix_facts hp0).2
 have hpp : nth s.profiles (findIx (fun p => decide (p.name = u)) s.profiles 0).toNat = profOf s u := rfl
 have hmem : profOf s u ∈ s.profiles := nth_mem hp2
 refine good_run [(6, [11, 12, 13, 34, 35, 36, 37, 38, 39, 40, 41, 42, 43, 44, 45, 46, 47, 48, 49, 50, 51, 52, 53, 54, 55, 56, 57], [12, 54])] mixed Tryz.func156 rfl Tryz.ntmps156 (rs := [.cell 6 111]) rfl (by decide +kernel) (by kernel_rfl) rfl ?_
 rw [startE_eq 78 _ _ _ rfl rfl]
 simp only [go_sem, seval]
 refine call_of (itself_good s u o hs hu ho) ?_
 simp only [go_sem, seval]
 refine ifI (fun h1 => ?_) fun h1 => ?_
 · simp only [go_sem, seval]
   have hI : authorityP s u o = (itselfP s u o).1 := by rw [authorityP, if_pos h1]
   simp [hI]
 simp only [go_sem, seval]
 refine callD_of (profile_good s _ hs.profiles) ?_
 simp only [go_sem, seval, hp0, hp1, hp2, hpp]
 refine ⟨by decide +kernel, ?_⟩
 refine loop_by ([11, 12, 13, 34, 35, 36, 37, 38, 39, 40, 41, 42, 43, 44, 45, 46, 47, 48, 49, 50, 51, 52, 53, 54, 55, 56, 57], [12, 54]) (fun x : Nat × Nat × Int × ByteArray => [(.s 33, .int .i64 (x.1 : Int)), (.o 12, deadV x.1), (.o 54, deadV x.2.1), (.o 9, .obj 1 111 3 false false [[.int .i64 x.2.2.1, .int .i64 5, .str x.2.2.2]])])
  (fun x => (profOf s u).groups.length - x.1) (fun x => x.1 ≤ (profOf s u).groups.length ∧ grpA s o (profOf s u).groups 0 ⟨#[]⟩ = grpA s o ((profOf s u).groups.drop x.1) x.2.2.1 x.2.2.2) (0, 0, 0, ⟨#[]⟩) rfl ⟨Nat.zero_le _, rfl⟩ ?_ ?_
 · simp only [go_sem, seval]
 rintro c' st' hst ⟨i, m, a, b⟩ ⟨hi, hf⟩ ih
 simp only at hi hf
 simp only [go_sem, seval]
 refine ifI (fun hlt => ?_) fun hlt => ?_
 · have hgl := hs.groups _ hmem
   simp only [go_sem, seval, hlt]
   refine call_of (itself_good s _ o hs (hg _ hmem _ (nth_mem hlt)) ho) ?_
   simp only [go_sem, seval]
   refine ifI (fun h2 => ?_) fun h2 => ?_
   · simp only [go_sem, seval]
     refine call_of (OrS2_good b _) ?_
     simp only [go_sem, seval]
     refine ih (i + 1, m + 1, Go.bits .or .i64 a (itselfP s (nth (profOf s u).groups i) o).1.auth, if b = ⟨#[]⟩ then nth (profOf s u).groups i else b) _ ⟨by simp only; omega, ?_⟩ (by simp only; omega) ?_
     · simp only
       rw [hf, drop_nth hlt, grpA, if_pos h2]
     · simp only [go_sem, seval, wrap_succ (show i < 9223372036854775807 by omega)]
   · simp only [go_sem, seval]
     refine ih (i + 1, m, a, b) _ ⟨by simp only; omega, ?_⟩ (by simp only; omega) ?_
     · simp only
       rw [hf, drop_nth hlt, grpA, if_neg h2]
     · simp only [go_sem, seval, wrap_succ (show i < 9223372036854775807 by omega)]
 subst hst
 rw [List.drop_eq_nil_of_le (by omega)] at hf
 simp only [grpA] at hf
 simp only [go_sem, seval]
 refine ifI (fun h3 => ?_) fun h3 => ?_
 · simp only [go_sem, seval]
   have hI : authorityP s u o = ⟨a, 5, b⟩ := by rw [authorityP, if_neg h1, hf, if_pos h3]
   simp [hI]
 simp only [go_sem, seval]
 refine ifI (fun h4 => ?_) fun h4 => ?_
 · have hl0 : 0 ≤ findIx (fun p => decide (p.name = o.list)) s.lists 0 := ho.2 (hb h4)
   have hl1 := (ix_facts hl0).1; have hl2 := (ix_facts hl0).2
   simp only [go_sem, seval]
   refine callD_of (list_good s _ hs.lists) ?_
   simp only [go_sem, seval, hl0, hl1, hl2]
   refine ⟨by decide +kernel, ?_⟩
   have hI : authorityP s u o = ⟨(listOf s o.list).pub, 6, star⟩ := by rw [authorityP, if_neg h1, hf, if_neg h3, publicOf, if_pos h4]
   simp [hI, star, listOf, listIx]
 · simp only [go_sem, seval]
   have hI : authorityP s u o = ⟨o.pub, 6, star⟩ := by rw [authorityP, if_neg h1, hf, if_neg h3, publicOf, if_neg h4]
   simp [hI, star]
set_option maxRecDepth 100000
theorem firstE_zero : ∀ {l : List Int}, firstE l = 0 → ∀ e ∈ l, e = 0
 | [], _, e, h => by cases h
 | x :: l, h, e, he => by
   rw [firstE] at h
   split at h
   · rename_i hx
     rcases List.mem_cons.1 he with rfl | he
     · exact hx
     · exact firstE_zero h e he
   · rename_i hx; exact absurd h hx
theorem scanI_zero {f : Nat → Int} : ∀ (k i : Nat), (scanI f k i).2 = 0 → ∀ j, i ≤ j → j < i + k → f j = 0
 | 0, i, _, j, h1, h2 => by omega
 | k + 1, i, h, j, h1, h2 => by
   rw [scanI] at h
   split at h
   · rename_i h0
     rcases Nat.lt_or_ge i j with h3 | h3
     · exact scanI_zero k (i + 1) h j h3 (by omega)
     · rw [show j = i by omega]; exact h0
   · rename_i h0; exact absurd h h0
theorem scan_zero {f : Nat → Int} : ∀ (k i : Nat), scan f k i = 0 → ∀ j, i ≤ j → j < i + k → f j = 0
 | 0, i, _, j, h1, h2 => by omega
 | k + 1, i, h, j, h1, h2 => by
   rw [scan] at h
   split at h
   · rename_i h0
     rcases Nat.lt_or_ge i j with h3 | h3
     · exact scan_zero k (i + 1) h j h3 (by omega)
     · rw [show j = i by omega]; exact h0
   · rename_i h0; exact absurd h h0
theorem ite_zero {c : Prop} [Decidable c] {n : Int} (hn : n ≠ 0) (h : (if c then n else 0) = 0) : ¬ c := by
 intro hc; rw [if_pos hc] at h; exact hn h
structure Sound (s : Sec) : Prop where
 fit : Fit s
 grouped : Grouped s
 flat : ∀ p ∈ s.profiles, ∀ g ∈ p.groups, (profOf s g).groups.length = 0
 named : ∀ p ∈ s.profiles, isNm p.name = true
 listed : ∀ o ∈ s.objects, Listed s o
 byList : ∀ o ∈ s.objects, o.byList = true → ¬ o.list = ⟨#[]⟩
 pgrants : ∀ o ∈ s.objects, grantsE s o.grants = 0
 lgrants : ∀ l ∈ s.lists, grantsE s l.grants = 0
 few : s.objects.length ≤ 8
 profs : ∀ i, i < s.profiles.length → profE s i = 0
 objs : ∀ i, i < s.objects.length → objE s i = 0
 lists : ∀ i, i < s.lists.length → listE s i = 0
theorem mem_nth {α : Type} [Inhabited α] {l : List α} {x : α} (h : x ∈ l) : ∃ i, i < l.length ∧ nth l i = x := by
 obtain ⟨i, hi, rfl⟩ := List.getElem_of_mem h
 exact ⟨i, hi, nth_eq hi⟩
theorem sound_of {s : Sec} (hf : Fit s) (h : (secE s).2 = 0) : Sound s := by
 rw [secE] at h
 split at h
 · cases h
 split at h
 · cases h
 split at h
 · cases h
 rename_i l1 l2 l3
 split at h
 · rename_i h1; exact absurd h h1
 rename_i hp
 split at h
 · rename_i h1; exact absurd h h1
 rename_i hl
 split at h
 · rename_i h1; exact absurd h h1
 rename_i ho
 simp only [ne_eq, Classical.not_not] at hp hl ho
 have hp1 : (scanI (profE s) s.profiles.length 0).2 = 0 ∧ (scanI (grpsE s) s.profiles.length 0).2 = 0 := by
  rw [profilesE] at hp
  split at hp
  · rename_i h1; exact absurd hp h1
  · rename_i h1; exact ⟨Classical.not_not.1 h1, hp⟩
 have p1 := scanI_zero _ _ hp1.1
 have p2 := scanI_zero _ _ hp1.2
 have p3 := scanI_zero _ _ hl
 have p4 := scanI_zero _ _ ho
 have hgrp : ∀ p ∈ s.profiles, ∀ g ∈ p.groups, 0 ≤ profIx s g ∧ (profOf s g).groups.length = 0 := fun p hp g hg => by
  obtain ⟨i, hi, rfl⟩ := mem_nth hp
  obtain ⟨k, hk, rfl⟩ := mem_nth hg
  have h0 := scan_zero _ _ (p2 i (Nat.zero_le _) (by omega)) k (Nat.zero_le _) (by omega)
  rw [grpE, grpF] at h0
  have hz := firstE_zero h0
  have a1 := ite_zero (by decide) (hz _ (List.mem_cons_self ..))
  have a2 := ite_zero (by decide) (hz _ (List.mem_cons_of_mem _ (List.mem_cons_self ..)))
  refine ⟨by omega, ?_⟩
  rw [decide_eq_true (by omega), Bool.true_and, decide_eq_true_eq] at a2
  show (nth s.profiles _).groups.length = 0
  omega
 have hobj : ∀ i, i < s.objects.length → objE s i = 0 := fun i hi => p4 i (Nat.zero_le _) (by omega)
 refine ⟨hf, fun p hp g hg => (hgrp p hp g hg).1, fun p hp g hg => (hgrp p hp g hg).2, fun p hp => ?_, fun o ho => ?_, fun o ho => ?_, fun o ho => ?_, fun l hl => ?_, by omega, fun i hi => p1 i (Nat.zero_le _) (by omega), hobj, fun i hi => p3 i (Nat.zero_le _) (by omega)⟩
 · obtain ⟨i, hi, rfl⟩ := mem_nth hp
   have h0 := p1 i (Nat.zero_le _) (by omega)
   rw [profE_def] at h0
   have := ite_zero (by decide) (firstE_zero h0 _ (List.mem_cons_self ..))
   simpa using this
 · obtain ⟨i, hi, rfl⟩ := mem_nth ho
   have h0 := hobj i hi
   rw [objE_def] at h0
   have hz := firstE_zero h0
   simp only [List.mem_cons, List.not_mem_nil, or_false, forall_eq_or_imp, forall_eq] at hz
   obtain ⟨-, -, -, -, z, -⟩ := hz
   have := ite_zero (by decide) z
   refine ⟨hf.ogrants _ ho, fun hne => ?_⟩
   rw [decide_eq_true hne, Bool.true_and, decide_eq_true_eq] at this
   exact Int.not_lt.1 this
 · obtain ⟨i, hi, rfl⟩ := mem_nth ho
   have h0 := hobj i hi
   rw [objE_def] at h0
   have hz := firstE_zero h0
   simp only [List.mem_cons, List.not_mem_nil, or_false, forall_eq_or_imp, forall_eq] at hz
   obtain ⟨-, -, -, -, -, z, -⟩ := hz
   have := ite_zero (by decide) z
   intro hb hn
   exact this (by simp [hb, hn])
 · obtain ⟨i, hi, rfl⟩ := mem_nth ho
   have h0 := hobj i hi
   rw [objE_def] at h0
   have hz := firstE_zero h0
   simp only [List.mem_cons, List.not_mem_nil, or_false, forall_eq_or_imp, forall_eq] at hz
   exact hz.2.2.2.1
 · obtain ⟨i, hi, rfl⟩ := mem_nth hl
   have h0 := p3 i (Nat.zero_le _) (by omega)
   rw [listE_def] at h0
   have hz := firstE_zero h0
   simp only [List.mem_cons, List.not_mem_nil, or_false, forall_eq_or_imp, forall_eq] at hz
   exact hz.2.2.2.1
structure Sound1 (s : Sec) : Prop where
 fit : Fit s
 grouped : Grouped s
 named : ∀ p ∈ s.profiles, isNm p.name = true
 listed : ∀ o ∈ s.objects, Listed s o
 byList : ∀ o ∈ s.objects, o.byList = true → ¬ o.list = ⟨#[]⟩
 prng : ∀ o ∈ s.objects, ∀ g ∈ o.grants, inB g.auth 0 1023 = true
 lrng : ∀ l ∈ s.lists, ∀ g ∈ l.grants, inB g.auth 0 1023 = true
 pubL : ∀ l ∈ s.lists, inB l.pub 0 1023 = true
 pubO : ∀ o ∈ s.objects, inB o.pub 0 1023 = true
theorem grants_inB {s : Sec} {l : List Grant} (h : grantsE s l = 0) : ∀ g ∈ l, inB g.auth 0 1023 = true := fun g hg => by
 rw [grantsE] at h
 split at h
 · cases h
 obtain ⟨k, hk, rfl⟩ := mem_nth hg
 have h0 := scan_zero _ _ h k (Nat.zero_le _) (by omega)
 rw [grantE_def] at h0
 have z := firstE_zero h0
 simp only [List.mem_cons, List.not_mem_nil, or_false, forall_eq_or_imp, forall_eq] at z
 have := ite_zero (by decide) z.2.2
 simpa using this
theorem Sound.weak {s : Sec} (h : Sound s) : Sound1 s := by
 refine ⟨h.fit, h.grouped, h.named, h.listed, h.byList, fun o ho => grants_inB (h.pgrants o ho), fun l hl => grants_inB (h.lgrants l hl), fun l hl => ?_, fun o ho => ?_⟩
 · obtain ⟨i, hi, rfl⟩ := mem_nth hl
   have h0 := h.lists i hi
   rw [listE_def] at h0
   have z := firstE_zero h0
   simp only [List.mem_cons, List.not_mem_nil, or_false, forall_eq_or_imp, forall_eq] at z
   have := ite_zero (by decide) z.2.2.2.2
   simpa using this
 · obtain ⟨i, hi, rfl⟩ := mem_nth ho
   have h0 := h.objs i hi
   rw [objE_def] at h0
   have z := firstE_zero h0
   simp only [List.mem_cons, List.not_mem_nil, or_false, forall_eq_or_imp, forall_eq] at z
   have := ite_zero (by decide) z.2.2.2.2.2.2
   simpa using this
def objOf (s : Sec) (i : Int) : Secured := nth s.objects i.toNat
def zeroF : Found := ⟨0, 0, ⟨#[]⟩⟩
def authErr (s : Sec) (u : ByteArray) (i : Int) : Int := firstE [(secE s).2, userE s u, ixE s i]
def AuthorityOfP (s : Sec) (u : ByteArray) (i : Int) : Found × Int := if ¬ authErr s u i = 0 then (zeroF, authErr s u i) else (authorityP s u (objOf s i), 0)
theorem ixE_zero {s : Sec} {i : Int} (h : ixE s i = 0) : 0 ≤ i ∧ i < (s.objects.length : Int) ∧ i.toNat < s.objects.length := by
 have h1 := ite_zero (by decide) h
 simp [inB] at h1
 omega
theorem userE_zero {s : Sec} {u : ByteArray} (h : userE s u = 0) : 0 ≤ profIx s u := Int.not_lt.1 (ite_zero (by decide) h)
set_option maxHeartbeats 4000000 in
theorem AuthorityOf_good (s : Sec) (u : ByteArray) (i : Int) (hs : Fit s) : Ans Tryz.prog 117 [.agg (encSec s), .str u, .int .i64 i] (.tup [.agg (encFound (AuthorityOfP s u i).1), .int .i64 (AuthorityOfP s u i).2]) := by
 have hE : authErr s u i = firstE [(secE s).2, userE s u, ixE s i] := rfl
 refine good_run [] mixed Tryz.func117 rfl Tryz.ntmps117 (rs := [.cell 6 111, .tmp 7]) rfl (by decide +kernel) (by kernel_rfl) rfl ?_
 rw [startE_eq 31 _ _ _ rfl rfl]
 simp only [go_sem, seval]
 refine callD_of (securityErr_good s hs) ?_
 simp only [go_sem, seval]
 refine callD_of (userErr_good s u hs) ?_
 simp only [go_sem, seval]
 refine callD_of (objectErr_good s i hs) ?_
 simp only [go_sem, seval]
 refine callD_of (first3_good _ _ _) ?_
 simp only [go_sem, seval]
 refine ⟨by decide +kernel, ifI (fun h => ?_) fun h => ?_⟩
 · simp only [go_sem, seval]
   have hI : AuthorityOfP s u i = (zeroF, authErr s u i) := by rw [AuthorityOfP, if_pos (hE ▸ h)]
   simp [hI, zeroF, hE]
 have h0 : authErr s u i = 0 := Classical.not_not.1 h
 have hz := firstE_zero h0
 simp only [List.mem_cons, List.not_mem_nil, or_false, forall_eq_or_imp, forall_eq] at hz
 have hS := sound_of hs hz.1
 have hix := ixE_zero hz.2.2
 have i1 := hix.1; have i2 := hix.2.1; have i3 := hix.2.2
 have hoo : nth s.objects i.toNat = objOf s i := rfl
 have hmem : objOf s i ∈ s.objects := nth_mem i3
 simp only [go_sem, seval, i1, i2, i3, hoo]
 refine callD_of (authority_good s u (objOf s i) hs hS.grouped (userE_zero hz.2.1) (hS.listed _ hmem) (hS.byList _ hmem)) ?_
 simp only [go_sem, seval]
 refine ⟨by decide +kernel, ?_⟩
 have hI : AuthorityOfP s u i = (authorityP s u (objOf s i), 0) := by rw [AuthorityOfP, if_neg (not_not_intro h0)]
 simp [hI]
def reqE0 (s : Sec) (r : Req) : Int := firstE [userE s r.user, ixE s r.object, if (6 : Int) < (r.adopters.length : Int) then 2 else 0]
def adoE (s : Sec) (r : Req) : Int := scan (fun k => userE s (nth r.adopters k)) r.adopters.length 0
def reqE (s : Sec) (r : Req) : Int := if ¬ reqE0 s r = 0 then reqE0 s r else if ¬ adoE s r = 0 then adoE s r else if (!inB r.needed 0 1023) = true then 3 else 0
def adoP (s : Sec) (o : Secured) (n : Int) : List ByteArray → Int → Option (Int × ByteArray)
 | [], _ => none
 | a :: l, x => if incB (if (itselfP s a o).2 = true then Go.bits .or .i64 x (itselfP s a o).1.auth else x) n = true then some (if (itselfP s a o).2 = true then Go.bits .or .i64 x (itselfP s a o).1.auth else x, a)
   else adoP s o n l (if (itselfP s a o).2 = true then Go.bits .or .i64 x (itselfP s a o).1.auth else x)
def accP (s : Sec) (r : Req) : Found × Bool :=
 if incB (authorityP s r.user (objOf s r.object)).auth r.needed = true then (authorityP s r.user (objOf s r.object), true)
 else match adoP s (objOf s r.object) r.needed r.adopters (authorityP s r.user (objOf s r.object)).auth with
  | some (x, a) => (⟨x, 7, a⟩, true)
  | none => (authorityP s r.user (objOf s r.object), false)
def accErr (s : Sec) (r : Req) : Int := if ¬ (secE s).2 = 0 then (secE s).2 else reqE s r
def AccessP (s : Sec) (r : Req) : Found × Bool := if ¬ accErr s r = 0 then (zeroF, false) else accP s r
set_option maxRecDepth 100000
def rng (x : Int) : Prop := 0 ≤ x ∧ x < 1024
theorem or_rng {x y : Int} (hx : rng x) (hy : rng y) : rng (Go.bits .or .i64 x y) := by
 obtain ⟨a, rfl⟩ := Int.eq_ofNat_of_zero_le hx.1
 obtain ⟨b, rfl⟩ := Int.eq_ofNat_of_zero_le hy.1
 have ha : a < 2 ^ 10 := by have := hx.2; omega
 have hb : b < 2 ^ 10 := by have := hy.2; omega
 rw [(bits_nat .i64 10 (by decide) (fun n h1 h2 => by rw [IntKind.wrap_i64]; omega) a b ha hb).2]
 have := Nat.or_lt_two_pow ha hb
 exact ⟨by omega, by omega⟩
theorem findIx_hit {α : Type} [Inhabited α] (p : α → Bool) : ∀ (l : List α) (i : Nat), (i : Int) ≤ findIx p l i → p (nth l (findIx p l i - i).toNat) = true
 | [], i, h => by rw [findIx] at h; omega
 | a :: l, i, h => by
   rw [findIx] at h ⊢
   by_cases hp : p a = true
   · simp only [hp, if_true]
     rw [show ((i : Int) - i).toNat = 0 by omega]; exact hp
   · simp only [hp] at h ⊢
     have hg := findIx_ge p l (i + 1)
     have h2 : ((i + 1 : Nat) : Int) ≤ findIx p l (i + 1) := by
      rcases hg with hg | hg
      · rw [if_neg (by simp)] at h; omega
      · exact hg.1
     have := findIx_hit p l (i + 1) h2
     rw [if_neg (by simp)]
     rw [show (findIx p l (i + 1) - i).toNat = (findIx p l (i + 1) - ((i + 1 : Nat) : Int)).toNat + 1 by omega]
     exact this
theorem grant_hit {l : List Grant} {u : ByteArray} (h : 0 ≤ grantIx l u) : (nth l (grantIx l u).toNat).user = u ∧ (grantIx l u).toNat < l.length := by
 have h1 := findIx_hit (fun p : Grant => decide (p.user = u)) l 0 h
 rw [decide_eq_true_eq] at h1
 refine ⟨?_, (ix_facts h).2⟩
 rw [show ((0 : Nat) : Int) = 0 from rfl, Int.sub_zero] at h1
 exact h1
theorem prof_hit {s : Sec} {u : ByteArray} (h : 0 ≤ profIx s u) : (profOf s u).name = u ∧ profOf s u ∈ s.profiles := by
 have h1 := findIx_hit (fun p : Prof => decide (p.name = u)) s.profiles 0 h
 rw [decide_eq_true_eq, show ((0 : Nat) : Int) = 0 from rfl, Int.sub_zero] at h1
 exact ⟨h1, nth_mem (ix_facts h).2⟩
theorem list_hit {s : Sec} {u : ByteArray} (h : 0 ≤ listIx s u) : (listOf s u).name = u ∧ listOf s u ∈ s.lists := by
 have h1 := findIx_hit (fun p : AList => decide (p.name = u)) s.lists 0 h
 rw [decide_eq_true_eq, show ((0 : Nat) : Int) = 0 from rfl, Int.sub_zero] at h1
 exact ⟨h1, nth_mem (ix_facts h).2⟩
theorem inB_rng {x : Int} (h : inB x 0 1023 = true) : rng x := by
 simp [inB] at h; exact ⟨h.1, by omega⟩
theorem nm_ne {n : ByteArray} (h : isNm n = true) : ¬ n = ⟨#[]⟩ := by
 rintro rfl; revert h; decide
theorem group_ne {s : Sec} (hS : Sound1 s) {g : ByteArray} (h : 0 ≤ profIx s g) : ¬ g = ⟨#[]⟩ := by
 have := prof_hit h
 rw [← this.1]; exact nm_ne (hS.named _ this.2)
theorem r1023 : rng 1023 := ⟨by decide, by decide⟩
theorem r0 : rng 0 := ⟨by decide, by decide⟩
theorem itself_rng {s : Sec} (hS : Sound1 s) {u : ByteArray} {o : Secured} (ho : o ∈ s.objects) : rng (itselfP s u o).1.auth := by
 rw [itselfP]
 split
 · exact r1023
 split
 · rename_i h; exact inB_rng (hS.prng o ho _ (nth_mem (grant_hit h).2))
 split
 · exact r1023
 split
 · exact r0
 rename_i hl
 split
 · rename_i h; exact inB_rng (hS.lrng _ (list_hit ((hS.listed o ho).2 hl)).2 _ (nth_mem (grant_hit h).2))
 · exact r1023
theorem grpA_rng {s : Sec} (hS : Sound1 s) {o : Secured} (ho : o ∈ s.objects) : ∀ (l : List ByteArray) (a : Int) (b : ByteArray), rng a → rng (grpA s o l a b).1
 | [], a, b, h => h
 | g :: l, a, b, h => by
   rw [grpA]; split
   · exact grpA_rng hS ho l _ _ (or_rng h (itself_rng hS ho))
   · exact grpA_rng hS ho l _ _ h
theorem public_rng {s : Sec} (hS : Sound1 s) {o : Secured} (ho : o ∈ s.objects) : rng (publicOf s o) := by
 rw [publicOf]; split
 · rename_i hb
   exact inB_rng (hS.pubL _ (list_hit ((hS.listed o ho).2 (hS.byList o ho hb))).2)
 · exact inB_rng (hS.pubO o ho)
theorem authority_rng {s : Sec} (hS : Sound1 s) {u : ByteArray} {o : Secured} (ho : o ∈ s.objects) : rng (authorityP s u o).auth := by
 rw [authorityP]; split
 · exact itself_rng hS ho
 split
 · exact grpA_rng hS ho _ _ _ ⟨by decide, by decide⟩
 · exact public_rng hS ho
def itselfR (s : Sec) (u : ByteArray) (o : Secured) : Found := if (itselfP s u o).2 = true then (itselfP s u o).1 else zeroF
theorem ix_neq {α : Type} {p : α → Bool} {l : List α} : (¬ findIx p l 0 = -1) ↔ 0 ≤ findIx p l 0 := by
 have := findIx_ge p l 0
 constructor
 · intro h; omega
 · intro h h2; omega
set_option maxHeartbeats 4000000 in
theorem Itself_good (s : Sec) (u : ByteArray) (i : Int) (hs : Fit s) (hu : 0 ≤ profIx s u) (hix : 0 ≤ i ∧ i < (s.objects.length : Int) ∧ i.toNat < s.objects.length) (ho : Listed s (objOf s i)) :
 Ans Tryz.prog 101 [.agg (encSec s), .str u, .int .i64 i] (.tup [.agg (encFound (itselfR s u (objOf s i))), .bool (itselfP s u (objOf s i)).2]) := by
 have hp0 : 0 ≤ findIx (fun p => decide (p.name = u)) s.profiles 0 := hu
 have hp1 := (ix_facts hp0).1; have hp2 := (ix_facts hp0).2
 have hpp : nth s.profiles (findIx (fun p => decide (p.name = u)) s.profiles 0).toNat = profOf s u := rfl
 have i1 := hix.1; have i2 := hix.2.1; have i3 := hix.2.2
 have hoo : nth s.objects i.toNat = objOf s i := rfl
 have fin : ∀ {f : Found} {b : Bool}, itselfP s u (objOf s i) = (f, b) → itselfR s u (objOf s i) = if b = true then f else zeroF := fun h => by rw [itselfR, h]
 refine good_run [] mixed Tryz.func101 rfl Tryz.ntmps101 (rs := [.cell 6 111, .tmp 7]) rfl (by decide +kernel) (by kernel_rfl) rfl ?_
 rw [startE_eq 85 _ _ _ rfl rfl]
 simp only [go_sem, seval]
 refine callD_of (User_good s _ hs.profiles) ?_
 simp only [go_sem, seval, hp0, hp1, hp2, hpp, i1, i2, i3, hoo]
 refine ⟨by decide +kernel, ifI (fun h1 => ?_) fun h1 => ?_⟩
 · simp only [go_sem, seval]
   have hI : itselfP s u (objOf s i) = (⟨1023, 0, u⟩, true) := by rw [itselfP, if_pos h1]
   simp [hI, fin hI]
 simp only [go_sem, seval]
 refine call_of (Private_good _ _ ho.1) ?_
 simp only [go_sem, seval]
 refine ifI (fun h2 => ?_) fun h2 => ?_
 · have h2a := ix_neq.1 h2
   have g1 := (ix_facts h2a).1; have g2 := (ix_facts h2a).2
   have h2' : 0 ≤ grantIx (objOf s i).grants u := h2a
   simp only [go_sem, seval, h2a, g1, g2]
   have hI : itselfP s u (objOf s i) = (⟨authOf (objOf s i).grants u, 1, u⟩, true) := by rw [itselfP, if_neg h1, if_pos h2']
   simp [hI, fin hI, authOf, grantIx]
 have h2' : ¬ 0 ≤ grantIx (objOf s i).grants u := fun h => h2 (ix_neq.2 h)
 simp only [go_sem, seval]
 refine ifI (fun h3 => ?_) fun h3 => ?_
 · simp only [go_sem, seval]
   have hI : itselfP s u (objOf s i) = (⟨1023, 2, u⟩, true) := by rw [itselfP, if_neg h1, if_neg h2', if_pos h3]
   simp [hI, fin hI]
 simp only [go_sem, seval]
 refine ifI (fun h4 => ?_) fun h4 => ?_
 · have hl0 : 0 ≤ findIx (fun p => decide (p.name = (objOf s i).list)) s.lists 0 := ho.2 h4
   have hl1 := (ix_facts hl0).1; have hl2 := (ix_facts hl0).2
   simp only [go_sem, seval]
   refine callD_of (List_good s _ hs.lists) ?_
   simp only [go_sem, seval, hl0, hl1, hl2]
   refine ⟨by decide +kernel, ?_⟩
   have hll : nth s.lists (findIx (fun p => decide (p.name = (objOf s i).list)) s.lists 0).toNat = listOf s (objOf s i).list := rfl
   simp only [go_sem, seval, hll]
   refine call_of (Private_good _ _ (hs.lgrants _ (nth_mem hl2))) ?_
   simp only [go_sem, seval]
   refine ifI (fun h5 => ?_) fun h5 => ?_
   · have h5a := ix_neq.1 h5
     have g1 := (ix_facts h5a).1; have g2 := (ix_facts h5a).2
     have h5' : 0 ≤ grantIx (listOf s (objOf s i).list).grants u := h5a
     simp only [go_sem, seval, h5a, g1, g2]
     refine ⟨by decide +kernel, ?_⟩
     have hI : itselfP s u (objOf s i) = (⟨authOf (listOf s (objOf s i).list).grants u, 3, (listOf s (objOf s i).list).name⟩, true) := by rw [itselfP, if_neg h1, if_neg h2', if_neg h3, if_neg h4, if_pos h5']
     simp [hI, fin hI, authOf, grantIx]
   have h5' : ¬ 0 ≤ grantIx (listOf s (objOf s i).list).grants u := fun h => h5 (ix_neq.2 h)
   have hI : itselfP s u (objOf s i) = (⟨1023, 4, (listOf s (objOf s i).list).name⟩, decide ((listOf s (objOf s i).list).owner = u)) := by rw [itselfP, if_neg h1, if_neg h2', if_neg h3, if_neg h4, if_neg h5']
   simp only [go_sem, seval]
   refine ifI (fun h6 => ?_) fun h6 => ?_
   · simp only [go_sem, seval]
     simp [hI, fin hI, h6]
   · simp only [go_sem, seval]
     simp [hI, fin hI, h6, zeroF]
 · simp only [go_sem, seval]
   have hI : itselfP s u (objOf s i) = (⟨0, 0, ⟨#[]⟩⟩, false) := by rw [itselfP, if_neg h1, if_neg h2', if_neg h3, if_pos (Classical.not_not.1 h4)]
   simp [hI, fin hI, zeroF]
set_option maxHeartbeats 4000000 in
theorem Authority_good1 (s : Sec) (u : ByteArray) (i : Int) (hS : Sound1 s) (hu : 0 ≤ profIx s u) (hix : 0 ≤ i ∧ i < (s.objects.length : Int) ∧ i.toNat < s.objects.length) :
 Ans Tryz.prog 55 [.agg (encSec s), .str u, .int .i64 i] (.agg (encFound (authorityP s u (objOf s i)))) := by
 have hs := hS.fit
 have hp0 : 0 ≤ findIx (fun p => decide (p.name = u)) s.profiles 0 := hu
 have hp1 := (ix_facts hp0).1; have hp2 := (ix_facts hp0).2
 have hpp : nth s.profiles (findIx (fun p => decide (p.name = u)) s.profiles 0).toNat = profOf s u := rfl
 have hmem : profOf s u ∈ s.profiles := nth_mem hp2
 have i1 := hix.1; have i2 := hix.2.1; have i3 := hix.2.2
 have hoo : nth s.objects i.toNat = objOf s i := rfl
 have homem : objOf s i ∈ s.objects := nth_mem i3
 have ho := hS.listed _ homem
 refine good_run [(8, [13, 14, 34, 35, 36, 37, 38, 39, 40, 41, 42, 43, 44, 45, 46, 47, 48, 49, 50, 51, 52, 53, 54, 55, 56, 57, 58, 59, 60, 61, 62, 63], [13])] mixed Tryz.func55 rfl Tryz.ntmps55 (rs := [.cell 6 111]) rfl (by decide +kernel) (by kernel_rfl) rfl ?_
 rw [startE_eq 87 _ _ _ rfl rfl]
 simp only [go_sem, seval]
 refine call_of (Itself_good s u i hs hu hix ho) ?_
 simp only [go_sem, seval]
 refine ifI (fun h1 => ?_) fun h1 => ?_
 · simp only [go_sem, seval]
   have hI : authorityP s u (objOf s i) = itselfR s u (objOf s i) := by rw [authorityP, if_pos h1, itselfR, if_pos h1]
   simp [hI]
 simp only [go_sem, seval]
 refine callD_of (User_good s _ hs.profiles) ?_
 simp only [go_sem, seval, hp0, hp1, hp2, hpp]
 refine ⟨by decide +kernel, ?_⟩
 refine loop_by ([13, 14, 34, 35, 36, 37, 38, 39, 40, 41, 42, 43, 44, 45, 46, 47, 48, 49, 50, 51, 52, 53, 54, 55, 56, 57, 58, 59, 60, 61, 62, 63], [13]) (fun x : Nat × Int × ByteArray => [(.s 12, .int .i64 (x.1 : Int)), (.s 11, .bool (decide (¬ x.2.2 = ⟨#[]⟩))), (.o 13, deadV x.1), (.o 10, .obj 1 111 3 false false [[.int .i64 x.2.1, .int .i64 5, .str x.2.2]])])
  (fun x => (profOf s u).groups.length - x.1) (fun x => x.1 ≤ (profOf s u).groups.length ∧ grpA s (objOf s i) (profOf s u).groups 0 ⟨#[]⟩ = grpA s (objOf s i) ((profOf s u).groups.drop x.1) x.2.1 x.2.2) (0, 0, ⟨#[]⟩) rfl ⟨Nat.zero_le _, rfl⟩ ?_ ?_
 · simp only [go_sem, seval, decide_false, not_true_eq_false, eq_self]
 rintro c' st' hst ⟨k, a, b⟩ ⟨hi, hf⟩ ih
 simp only at hi hf
 simp only [go_sem, seval]
 refine ifI (fun hlt => ?_) fun hlt => ?_
 · have hgl := hs.groups _ hmem
   have hgu := hS.grouped _ hmem _ (nth_mem hlt)
   have hne := group_ne hS hgu
   simp only [go_sem, seval, hlt]
   refine callD_of (Itself_good s _ i hs hgu hix ho) ?_
   simp only [go_sem, seval]
   refine ⟨by decide +kernel, ifI (fun h2 => ?_) fun h2 => ?_⟩
   · have hR : itselfR s (nth (profOf s u).groups k) (objOf s i) = (itselfP s (nth (profOf s u).groups k) (objOf s i)).1 := by rw [itselfR, if_pos h2]
     simp only [go_sem, seval]
     refine call_of (Union_good _ _) ?_
     simp only [go_sem, seval]
     refine ifI (fun h3 => ?_) fun h3 => ?_
     · have hb : b = ⟨#[]⟩ := by simpa using h3
       simp only [go_sem, seval, hlt]
       refine ih (k + 1, Go.bits .or .i64 a (itselfP s (nth (profOf s u).groups k) (objOf s i)).1.auth, nth (profOf s u).groups k) _ ⟨by simp only; omega, ?_⟩ (by simp only; omega) ?_
       · simp only
         rw [hf, drop_nth hlt, grpA, if_pos h2, if_pos hb]
       · simp only [go_sem, seval, wrap_succ (show k < 9223372036854775807 by omega), hR, hne, not_false_eq_true, decide_true]
     · have hb : ¬ b = ⟨#[]⟩ := by simpa using h3
       simp only [go_sem, seval]
       refine ih (k + 1, Go.bits .or .i64 a (itselfP s (nth (profOf s u).groups k) (objOf s i)).1.auth, b) _ ⟨by simp only; omega, ?_⟩ (by simp only; omega) ?_
       · simp only
         rw [hf, drop_nth hlt, grpA, if_pos h2, if_neg hb]
       · simp only [go_sem, seval, wrap_succ (show k < 9223372036854775807 by omega), hR]
   · simp only [go_sem, seval]
     refine ih (k + 1, a, b) _ ⟨by simp only; omega, ?_⟩ (by simp only; omega) ?_
     · simp only
       rw [hf, drop_nth hlt, grpA, if_neg h2]
     · simp only [go_sem, seval, wrap_succ (show k < 9223372036854775807 by omega)]
 subst hst
 rw [List.drop_eq_nil_of_le (by omega)] at hf
 simp only [grpA] at hf
 simp only [go_sem, seval]
 refine ifI (fun h3 => ?_) fun h3 => ?_
 · simp only [go_sem, seval]
   have hI : authorityP s u (objOf s i) = ⟨a, 5, b⟩ := by rw [authorityP, if_neg h1, hf, if_pos h3]
   simp [hI]
 simp only [go_sem, seval, i1, i2, i3, hoo]
 refine ifI (fun h4 => ?_) fun h4 => ?_
 · have hl0 : 0 ≤ findIx (fun p => decide (p.name = (objOf s i).list)) s.lists 0 := ho.2 (hS.byList _ homem h4)
   have hl1 := (ix_facts hl0).1; have hl2 := (ix_facts hl0).2
   simp only [go_sem, seval]
   refine callD_of (List_good s _ hs.lists) ?_
   simp only [go_sem, seval, hl0, hl1, hl2]
   refine ⟨by decide +kernel, ?_⟩
   have hI : authorityP s u (objOf s i) = ⟨(listOf s (objOf s i).list).pub, 6, star⟩ := by rw [authorityP, if_neg h1, hf, if_neg h3, publicOf, if_pos h4]
   simp [hI, star, listOf, listIx]
 · simp only [go_sem, seval]
   have hI : authorityP s u (objOf s i) = ⟨(objOf s i).pub, 6, star⟩ := by rw [authorityP, if_neg h1, hf, if_neg h3, publicOf, if_neg h4]
   simp [hI, star]
theorem Authority_good (s : Sec) (u : ByteArray) (i : Int) (hS : Sound s) (hu : 0 ≤ profIx s u) (hix : 0 ≤ i ∧ i < (s.objects.length : Int) ∧ i.toNat < s.objects.length) :
 Ans Tryz.prog 55 [.agg (encSec s), .str u, .int .i64 i] (.agg (encFound (authorityP s u (objOf s i)))) := Authority_good1 s u i hS.weak hu hix
end Go.Proofs.YtbhgehhmjpipiaaGreatDoor.C10
