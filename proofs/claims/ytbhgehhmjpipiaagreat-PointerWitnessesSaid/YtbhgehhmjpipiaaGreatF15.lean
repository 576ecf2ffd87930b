/- Chapter 10: the search of the reference. -/
import Derived.Test.YtbhgehhmjpipiaaGreatF13
import Derived.Laws.BitsLemmas
namespace Go.Proofs.YtbhgehhmjpipiaaGreat.C10
open Go Go.Proofs Go.Proofs.YtbhgehhmjpipiaaGreat.Ab
set_option maxRecDepth 100000
set_option linter.unusedSimpArgs false
attribute [local congr] ite_ctx
/-! ### Authorities as numbers -/
def rng (x : Int) : Prop := 0 ≤ x ∧ x < 1024
theorem or_rng {x y : Int} (hx : rng x) (hy : rng y) : rng (Go.bits .or .i64 x y) := by
  obtain ⟨a, rfl⟩ := Int.eq_ofNat_of_zero_le hx.1
  obtain ⟨b, rfl⟩ := Int.eq_ofNat_of_zero_le hy.1
  have ha : a < 2 ^ 10 := by have := hx.2; omega
  have hb : b < 2 ^ 10 := by have := hy.2; omega
  rw [(bits_nat .i64 10 (by decide) (fun n h1 h2 => by rw [IntKind.wrap_i64]; omega) a b ha hb).2]
  have := Nat.or_lt_two_pow ha hb
  exact ⟨by omega, by omega⟩
theorem or_zero {x : Int} (hx : rng x) : Go.bits .or .i64 x 0 = x := by
  obtain ⟨a, rfl⟩ := Int.eq_ofNat_of_zero_le hx.1
  have ha : a < 2 ^ 10 := by have := hx.2; omega
  have h := (bits_nat .i64 10 (by decide) (fun n h1 h2 => by rw [IntKind.wrap_i64]; omega) a 0 ha (by decide)).2
  rw [Nat.or_zero] at h
  exact h
theorem findIx_hit {α : Type} [Inhabited α] (p : α → Bool) : ∀ (l : List α) (i : Nat), (i : Int) ≤ findIx p l i → p (nth l (findIx p l i - i).toNat) = true
  | [], i, h => by rw [findIx] at h; omega
  | a :: l, i, h => by
    rw [findIx] at h ⊢
    by_cases hp : p a = true
    · simp only [hp, if_true]
      rw [show ((i : Int) - i).toNat = 0 by omega]; exact hp
    · simp only [hp] at h ⊢
      have hg := findIx_ge p l (i + 1)
      have h2 : ((i + 1 : Nat) : Int) ≤ findIx p l (i + 1) := by
        rcases hg with hg | hg
        · rw [if_neg (by simp)] at h; omega
        · exact hg.1
      have := findIx_hit p l (i + 1) h2
      rw [if_neg (by simp)]
      rw [show (findIx p l (i + 1) - i).toNat = (findIx p l (i + 1) - ((i + 1 : Nat) : Int)).toNat + 1 by omega]
      exact this
theorem grant_hit {l : List Grant} {u : ByteArray} (h : 0 ≤ grantIx l u) : (nth l (grantIx l u).toNat).user = u ∧ (grantIx l u).toNat < l.length := by
  have h1 := findIx_hit (fun p : Grant => decide (p.user = u)) l 0 h
  rw [decide_eq_true_eq] at h1
  refine ⟨?_, (ix_facts h).2⟩
  rw [show ((0 : Nat) : Int) = 0 from rfl, Int.sub_zero] at h1
  exact h1
theorem prof_hit {s : Sec} {u : ByteArray} (h : 0 ≤ profIx s u) : (profOf s u).name = u ∧ profOf s u ∈ s.profiles := by
  have h1 := findIx_hit (fun p : Prof => decide (p.name = u)) s.profiles 0 h
  rw [decide_eq_true_eq, show ((0 : Nat) : Int) = 0 from rfl, Int.sub_zero] at h1
  exact ⟨h1, nth_mem (ix_facts h).2⟩
theorem list_hit {s : Sec} {u : ByteArray} (h : 0 ≤ listIx s u) : (listOf s u).name = u ∧ listOf s u ∈ s.lists := by
  have h1 := findIx_hit (fun p : AList => decide (p.name = u)) s.lists 0 h
  rw [decide_eq_true_eq, show ((0 : Nat) : Int) = 0 from rfl, Int.sub_zero] at h1
  exact ⟨h1, nth_mem (ix_facts h).2⟩
theorem inB_rng {x : Int} (h : inB x 0 1023 = true) : rng x := by
  simp [inB] at h; exact ⟨h.1, by omega⟩
theorem grants_rng {s : Sec} {l : List Grant} (h : grantsE s l = 0) : ∀ g ∈ l, rng g.auth := fun g hg => by
  rw [grantsE] at h
  split at h
  · cases h
  obtain ⟨k, hk, rfl⟩ := mem_nth hg
  have h0 := scan_zero _ _ h k (Nat.zero_le _) (by omega)
  rw [grantE_def] at h0
  have z := firstE_zero h0
  simp only [List.mem_cons, List.not_mem_nil, or_false, forall_eq_or_imp, forall_eq] at z
  have := ite_zero (by decide) z.2.2
  exact inB_rng (by simpa using this)
theorem nm_ne {n : ByteArray} (h : isNm n = true) : ¬ n = ⟨#[]⟩ := by
  rintro rfl; revert h; decide
theorem group_ne {s : Sec} (hS : Sound1 s) {g : ByteArray} (h : 0 ≤ profIx s g) : ¬ g = ⟨#[]⟩ := by
  have := prof_hit h
  rw [← this.1]; exact nm_ne (hS.named _ this.2)
theorem r1023 : rng 1023 := ⟨by decide, by decide⟩
theorem r0 : rng 0 := ⟨by decide, by decide⟩
theorem itself_rng {s : Sec} (hS : Sound1 s) {u : ByteArray} {o : Secured} (ho : o ∈ s.objects) : rng (itselfP s u o).1.auth := by
  rw [itselfP]
  split
  · exact r1023
  split
  · rename_i h; exact inB_rng (hS.prng o ho _ (nth_mem (grant_hit h).2))
  split
  · exact r1023
  split
  · exact r0
  rename_i hl
  split
  · rename_i h; exact inB_rng (hS.lrng _ (list_hit ((hS.listed o ho).2 hl)).2 _ (nth_mem (grant_hit h).2))
  · exact r1023
theorem grpA_rng {s : Sec} (hS : Sound1 s) {o : Secured} (ho : o ∈ s.objects) : ∀ (l : List ByteArray) (a : Int) (b : ByteArray), rng a → rng (grpA s o l a b).1
  | [], a, b, h => h
  | g :: l, a, b, h => by
    rw [grpA]; split
    · exact grpA_rng hS ho l _ _ (or_rng h (itself_rng hS ho))
    · exact grpA_rng hS ho l _ _ h
theorem public_rng {s : Sec} (hS : Sound1 s) {o : Secured} (ho : o ∈ s.objects) : rng (publicOf s o) := by
  rw [publicOf]; split
  · rename_i hb
    exact inB_rng (hS.pubL _ (list_hit ((hS.listed o ho).2 (hS.byList o ho hb))).2)
  · exact inB_rng (hS.pubO o ho)
theorem authority_rng {s : Sec} (hS : Sound1 s) {u : ByteArray} {o : Secured} (ho : o ∈ s.objects) : rng (authorityP s u o).auth := by
  rw [authorityP]; split
  · exact itself_rng hS ho
  split
  · exact grpA_rng hS ho _ _ _ ⟨by decide, by decide⟩
  · exact public_rng hS ho
/-! ### The walks -/
def itselfR (s : Sec) (u : ByteArray) (o : Secured) : Found := if (itselfP s u o).2 = true then (itselfP s u o).1 else zeroF
theorem ix_neq {α : Type} {p : α → Bool} {l : List α} : (¬ findIx p l 0 = -1) ↔ 0 ≤ findIx p l 0 := by
  have := findIx_ge p l 0
  constructor
  · intro h; omega
  · intro h h2; omega
set_option maxHeartbeats 4000000 in
theorem Itself_good (s : Sec) (u : ByteArray) (i : Int) (hs : Fit s) (hu : 0 ≤ profIx s u) (hix : 0 ≤ i ∧ i < (s.objects.length : Int) ∧ i.toNat < s.objects.length) (ho : Listed s (objOf s i)) :
    Ans Tryz.prog 83 [.agg (encSec s), .str u, .int .i64 i] (.tup [.agg (encFound (itselfR s u (objOf s i))), .bool (itselfP s u (objOf s i)).2]) := by
  have hp0 : 0 ≤ findIx (fun p => decide (p.name = u)) s.profiles 0 := hu
  have hp1 := (ix_facts hp0).1; have hp2 := (ix_facts hp0).2
  have hpp : nth s.profiles (findIx (fun p => decide (p.name = u)) s.profiles 0).toNat = profOf s u := rfl
  have i1 := hix.1; have i2 := hix.2.1; have i3 := hix.2.2
  have hoo : nth s.objects i.toNat = objOf s i := rfl
  have fin : ∀ {f : Found} {b : Bool}, itselfP s u (objOf s i) = (f, b) → itselfR s u (objOf s i) = if b = true then f else zeroF := fun h => by rw [itselfR, h]
  refine good_run [] mixed Tryz.func83 rfl Tryz.ntmps83 (rs := [.cell 6 86, .tmp 7]) rfl (by decide +kernel) (by kernel_rfl) rfl ?_
  rw [startE_eq 85 _ _ _ rfl rfl]
  simp only [go_sem, seval]
  refine callD_of (User_good s _ hs.profiles) ?_
  simp only [go_sem, seval, hp0, hp1, hp2, hpp, i1, i2, i3, hoo]
  refine ⟨by decide +kernel, ifI (fun h1 => ?_) fun h1 => ?_⟩
  · simp only [go_sem, seval]
    have hI : itselfP s u (objOf s i) = (⟨1023, 0, u⟩, true) := by rw [itselfP, if_pos h1]
    simp [hI, fin hI]
  simp only [go_sem, seval]
  refine call_of (Private_good _ _ ho.1) ?_
  simp only [go_sem, seval]
  refine ifI (fun h2 => ?_) fun h2 => ?_
  · have h2a := ix_neq.1 h2
    have g1 := (ix_facts h2a).1; have g2 := (ix_facts h2a).2
    have h2' : 0 ≤ grantIx (objOf s i).grants u := h2a
    simp only [go_sem, seval, h2a, g1, g2]
    have hI : itselfP s u (objOf s i) = (⟨authOf (objOf s i).grants u, 1, u⟩, true) := by rw [itselfP, if_neg h1, if_pos h2']
    simp [hI, fin hI, authOf, grantIx]
  have h2' : ¬ 0 ≤ grantIx (objOf s i).grants u := fun h => h2 (ix_neq.2 h)
  simp only [go_sem, seval]
  refine ifI (fun h3 => ?_) fun h3 => ?_
  · simp only [go_sem, seval]
    have hI : itselfP s u (objOf s i) = (⟨1023, 2, u⟩, true) := by rw [itselfP, if_neg h1, if_neg h2', if_pos h3]
    simp [hI, fin hI]
  simp only [go_sem, seval]
  refine ifI (fun h4 => ?_) fun h4 => ?_
  · have hl0 : 0 ≤ findIx (fun p => decide (p.name = (objOf s i).list)) s.lists 0 := ho.2 h4
    have hl1 := (ix_facts hl0).1; have hl2 := (ix_facts hl0).2
    simp only [go_sem, seval]
    refine callD_of (List_good s _ hs.lists) ?_
    simp only [go_sem, seval, hl0, hl1, hl2]
    refine ⟨by decide +kernel, ?_⟩
    have hll : nth s.lists (findIx (fun p => decide (p.name = (objOf s i).list)) s.lists 0).toNat = listOf s (objOf s i).list := rfl
    simp only [go_sem, seval, hll]
    refine call_of (Private_good _ _ (hs.lgrants _ (nth_mem hl2))) ?_
    simp only [go_sem, seval]
    refine ifI (fun h5 => ?_) fun h5 => ?_
    · have h5a := ix_neq.1 h5
      have g1 := (ix_facts h5a).1; have g2 := (ix_facts h5a).2
      have h5' : 0 ≤ grantIx (listOf s (objOf s i).list).grants u := h5a
      simp only [go_sem, seval, h5a, g1, g2]
      refine ⟨by decide +kernel, ?_⟩
      have hI : itselfP s u (objOf s i) = (⟨authOf (listOf s (objOf s i).list).grants u, 3, (listOf s (objOf s i).list).name⟩, true) := by rw [itselfP, if_neg h1, if_neg h2', if_neg h3, if_neg h4, if_pos h5']
      simp [hI, fin hI, authOf, grantIx]
    have h5' : ¬ 0 ≤ grantIx (listOf s (objOf s i).list).grants u := fun h => h5 (ix_neq.2 h)
    have hI : itselfP s u (objOf s i) = (⟨1023, 4, (listOf s (objOf s i).list).name⟩, decide ((listOf s (objOf s i).list).owner = u)) := by rw [itselfP, if_neg h1, if_neg h2', if_neg h3, if_neg h4, if_neg h5']
    simp only [go_sem, seval]
    refine ifI (fun h6 => ?_) fun h6 => ?_
    · simp only [go_sem, seval]
      simp [hI, fin hI, h6]
    · simp only [go_sem, seval]
      simp [hI, fin hI, h6, zeroF]
  · simp only [go_sem, seval]
    have hI : itselfP s u (objOf s i) = (⟨0, 0, ⟨#[]⟩⟩, false) := by rw [itselfP, if_neg h1, if_neg h2', if_neg h3, if_pos (Classical.not_not.1 h4)]
    simp [hI, fin hI, zeroF]
set_option maxHeartbeats 4000000 in
theorem Authority_good1 (s : Sec) (u : ByteArray) (i : Int) (hS : Sound1 s) (hu : 0 ≤ profIx s u) (hix : 0 ≤ i ∧ i < (s.objects.length : Int) ∧ i.toNat < s.objects.length) :
    Ans Tryz.prog 44 [.agg (encSec s), .str u, .int .i64 i] (.agg (encFound (authorityP s u (objOf s i)))) := by
  have hs := hS.fit
  have hp0 : 0 ≤ findIx (fun p => decide (p.name = u)) s.profiles 0 := hu
  have hp1 := (ix_facts hp0).1; have hp2 := (ix_facts hp0).2
  have hpp : nth s.profiles (findIx (fun p => decide (p.name = u)) s.profiles 0).toNat = profOf s u := rfl
  have hmem : profOf s u ∈ s.profiles := nth_mem hp2
  have i1 := hix.1; have i2 := hix.2.1; have i3 := hix.2.2
  have hoo : nth s.objects i.toNat = objOf s i := rfl
  have homem : objOf s i ∈ s.objects := nth_mem i3
  have ho := hS.listed _ homem
  refine good_run [(8, [13, 14, 34, 35, 36, 37, 38, 39, 40, 41, 42, 43, 44, 45, 46, 47, 48, 49, 50, 51, 52, 53, 54, 55, 56, 57, 58, 59, 60, 61, 62, 63], [13])] mixed Tryz.func44 rfl Tryz.ntmps44 (rs := [.cell 6 86]) rfl (by decide +kernel) (by kernel_rfl) rfl ?_
  rw [startE_eq 87 _ _ _ rfl rfl]
  simp only [go_sem, seval]
  refine call_of (Itself_good s u i hs hu hix ho) ?_
  simp only [go_sem, seval]
  refine ifI (fun h1 => ?_) fun h1 => ?_
  · simp only [go_sem, seval]
    have hI : authorityP s u (objOf s i) = itselfR s u (objOf s i) := by rw [authorityP, if_pos h1, itselfR, if_pos h1]
    simp [hI]
  simp only [go_sem, seval]
  refine callD_of (User_good s _ hs.profiles) ?_
  simp only [go_sem, seval, hp0, hp1, hp2, hpp]
  refine ⟨by decide +kernel, ?_⟩
  refine loop_by ([13, 14, 34, 35, 36, 37, 38, 39, 40, 41, 42, 43, 44, 45, 46, 47, 48, 49, 50, 51, 52, 53, 54, 55, 56, 57, 58, 59, 60, 61, 62, 63], [13]) (fun x : Nat × Int × ByteArray => [(.s 12, .int .i64 (x.1 : Int)), (.s 11, .bool (decide (¬ x.2.2 = ⟨#[]⟩))), (.o 13, deadV x.1), (.o 10, .obj 1 86 3 false false [[.int .i64 x.2.1, .int .i64 5, .str x.2.2]])])
    (fun x => (profOf s u).groups.length - x.1) (fun x => x.1 ≤ (profOf s u).groups.length ∧ grpA s (objOf s i) (profOf s u).groups 0 ⟨#[]⟩ = grpA s (objOf s i) ((profOf s u).groups.drop x.1) x.2.1 x.2.2) (0, 0, ⟨#[]⟩) rfl ⟨Nat.zero_le _, rfl⟩ ?_ ?_
  · simp only [go_sem, seval, decide_false, not_true_eq_false, eq_self]
  rintro c' st' hst ⟨k, a, b⟩ ⟨hi, hf⟩ ih
  simp only at hi hf
  simp only [go_sem, seval]
  refine ifI (fun hlt => ?_) fun hlt => ?_
  · have hgl := hs.groups _ hmem
    have hgu := hS.grouped _ hmem _ (nth_mem hlt)
    have hne := group_ne hS hgu
    simp only [go_sem, seval, hlt]
    refine callD_of (Itself_good s _ i hs hgu hix ho) ?_
    simp only [go_sem, seval]
    refine ⟨by decide +kernel, ifI (fun h2 => ?_) fun h2 => ?_⟩
    · have hR : itselfR s (nth (profOf s u).groups k) (objOf s i) = (itselfP s (nth (profOf s u).groups k) (objOf s i)).1 := by rw [itselfR, if_pos h2]
      simp only [go_sem, seval]
      refine call_of (Union_good _ _) ?_
      simp only [go_sem, seval]
      refine ifI (fun h3 => ?_) fun h3 => ?_
      · have hb : b = ⟨#[]⟩ := by simpa using h3
        simp only [go_sem, seval, hlt]
        refine ih (k + 1, Go.bits .or .i64 a (itselfP s (nth (profOf s u).groups k) (objOf s i)).1.auth, nth (profOf s u).groups k) _ ⟨by simp only; omega, ?_⟩ (by simp only; omega) ?_
        · simp only
          rw [hf, drop_nth hlt, grpA, if_pos h2, if_pos hb]
        · simp only [go_sem, seval, wrap_succ (show k < 9223372036854775807 by omega), hR, hne, not_false_eq_true, decide_true]
      · have hb : ¬ b = ⟨#[]⟩ := by simpa using h3
        simp only [go_sem, seval]
        refine ih (k + 1, Go.bits .or .i64 a (itselfP s (nth (profOf s u).groups k) (objOf s i)).1.auth, b) _ ⟨by simp only; omega, ?_⟩ (by simp only; omega) ?_
        · simp only
          rw [hf, drop_nth hlt, grpA, if_pos h2, if_neg hb]
        · simp only [go_sem, seval, wrap_succ (show k < 9223372036854775807 by omega), hR]
    · simp only [go_sem, seval]
      refine ih (k + 1, a, b) _ ⟨by simp only; omega, ?_⟩ (by simp only; omega) ?_
      · simp only
        rw [hf, drop_nth hlt, grpA, if_neg h2]
      · simp only [go_sem, seval, wrap_succ (show k < 9223372036854775807 by omega)]
  subst hst
  rw [List.drop_eq_nil_of_le (by omega)] at hf
  simp only [grpA] at hf
  simp only [go_sem, seval]
  refine ifI (fun h3 => ?_) fun h3 => ?_
  · simp only [go_sem, seval]
    have hI : authorityP s u (objOf s i) = ⟨a, 5, b⟩ := by rw [authorityP, if_neg h1, hf, if_pos h3]
    simp [hI]
  simp only [go_sem, seval, i1, i2, i3, hoo]
  refine ifI (fun h4 => ?_) fun h4 => ?_
  · have hl0 : 0 ≤ findIx (fun p => decide (p.name = (objOf s i).list)) s.lists 0 := ho.2 (hS.byList _ homem h4)
    have hl1 := (ix_facts hl0).1; have hl2 := (ix_facts hl0).2
    simp only [go_sem, seval]
    refine callD_of (List_good s _ hs.lists) ?_
    simp only [go_sem, seval, hl0, hl1, hl2]
    refine ⟨by decide +kernel, ?_⟩
    have hI : authorityP s u (objOf s i) = ⟨(listOf s (objOf s i).list).pub, 6, star⟩ := by rw [authorityP, if_neg h1, hf, if_neg h3, publicOf, if_pos h4]
    simp [hI, star, listOf, listIx]
  · simp only [go_sem, seval]
    have hI : authorityP s u (objOf s i) = ⟨(objOf s i).pub, 6, star⟩ := by rw [authorityP, if_neg h1, hf, if_neg h3, publicOf, if_neg h4]
    simp [hI, star]
theorem Authority_good (s : Sec) (u : ByteArray) (i : Int) (hS : Sound s) (hu : 0 ≤ profIx s u) (hix : 0 ≤ i ∧ i < (s.objects.length : Int) ∧ i.toNat < s.objects.length) :
    Ans Tryz.prog 44 [.agg (encSec s), .str u, .int .i64 i] (.agg (encFound (authorityP s u (objOf s i)))) := Authority_good1 s u i hS.weak hu hix
theorem user_neg {s : Sec} {n : ByteArray} : (findIx (fun p => decide (p.name = n)) s.profiles 0 = -1) ↔ userE s n = 11 := by
  have := findIx_ge (fun p : Prof => decide (p.name = n)) s.profiles 0
  rw [userE, profIx]
  constructor
  · intro h; rw [if_pos (by omega)]
  · intro h
    split at h
    · omega
    · cases h
theorem user_ok {s : Sec} {n : ByteArray} (h : ¬ findIx (fun p => decide (p.name = n)) s.profiles 0 = -1) : userE s n = 0 := by
  rw [userE, profIx, if_neg]
  have := findIx_ge (fun p : Prof => decide (p.name = n)) s.profiles 0
  omega
theorem or_itself {s : Sec} {a : ByteArray} {o : Secured} {x : Int} (hx : rng x) : Go.bits .or .i64 x (itselfR s a o).auth = if (itselfP s a o).2 = true then Go.bits .or .i64 x (itselfP s a o).1.auth else x := by
  rw [itselfR]; split
  · rfl
  · exact or_zero hx
end Go.Proofs.YtbhgehhmjpipiaaGreat.C10
