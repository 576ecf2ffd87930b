/- Chapter 10: access, by the program. -/
import Derived.Test.YtdmcmfdmnlckdaaF12
namespace Go.Proofs.Ytdmcmfdmnlckdaa.C10
open Go Go.Proofs Go.Proofs.Ytdmcmfdmnlckdaa.Ab
set_option linter.unusedSimpArgs false
attribute [local congr] ite_ctx

theorem firstE_zero : ∀ {l : List Int}, firstE l = 0 → ∀ e ∈ l, e = 0
  | [], _, e, h => by cases h
  | x :: l, h, e, he => by
    rw [firstE] at h
    split at h
    · rename_i hx
      rcases List.mem_cons.1 he with rfl | he
      · exact hx
      · exact firstE_zero h e he
    · rename_i hx; exact absurd h hx
theorem scanI_zero {f : Nat → Int} : ∀ (k i : Nat), (scanI f k i).2 = 0 → ∀ j, i ≤ j → j < i + k → f j = 0
  | 0, i, _, j, h1, h2 => by omega
  | k + 1, i, h, j, h1, h2 => by
    rw [scanI] at h
    split at h
    · rename_i h0
      rcases Nat.lt_or_ge i j with h3 | h3
      · exact scanI_zero k (i + 1) h j h3 (by omega)
      · rw [show j = i by omega]; exact h0
    · rename_i h0; exact absurd h h0
theorem scan_zero {f : Nat → Int} : ∀ (k i : Nat), scan f k i = 0 → ∀ j, i ≤ j → j < i + k → f j = 0
  | 0, i, _, j, h1, h2 => by omega
  | k + 1, i, h, j, h1, h2 => by
    rw [scan] at h
    split at h
    · rename_i h0
      rcases Nat.lt_or_ge i j with h3 | h3
      · exact scan_zero k (i + 1) h j h3 (by omega)
      · rw [show j = i by omega]; exact h0
    · rename_i h0; exact absurd h h0

theorem ite_zero {c : Prop} [Decidable c] {n : Int} (hn : n ≠ 0) (h : (if c then n else 0) = 0) : ¬ c := by
  intro hc; rw [if_pos hc] at h; exact hn h

/-- What is so of security information without an error. -/
structure Sound (s : Sec) : Prop where
  fit : Fit s
  grouped : Grouped s
  flat : ∀ p ∈ s.profiles, ∀ g ∈ p.groups, (profOf s g).groups.length = 0
  named : ∀ p ∈ s.profiles, isNm p.name = true
  listed : ∀ o ∈ s.objects, Listed s o
  byList : ∀ o ∈ s.objects, o.byList = true → ¬ o.list = ⟨#[]⟩
  pgrants : ∀ o ∈ s.objects, grantsE s o.grants = 0
  lgrants : ∀ l ∈ s.lists, grantsE s l.grants = 0
  few : s.objects.length ≤ 8
  profs : ∀ i, i < s.profiles.length → profE s i = 0
  objs : ∀ i, i < s.objects.length → objE s i = 0
  lists : ∀ i, i < s.lists.length → listE s i = 0

theorem mem_nth {α : Type} [Inhabited α] {l : List α} {x : α} (h : x ∈ l) : ∃ i, i < l.length ∧ nth l i = x := by
  obtain ⟨i, hi, rfl⟩ := List.getElem_of_mem h
  exact ⟨i, hi, nth_eq hi⟩

theorem sound_of {s : Sec} (hf : Fit s) (h : (secE s).2 = 0) : Sound s := by
  rw [secE] at h
  split at h
  · cases h
  split at h
  · cases h
  split at h
  · cases h
  rename_i l1 l2 l3
  split at h
  · rename_i h1; exact absurd h h1
  rename_i hp
  split at h
  · rename_i h1; exact absurd h h1
  rename_i hl
  split at h
  · rename_i h1; exact absurd h h1
  rename_i ho
  simp only [ne_eq, Classical.not_not] at hp hl ho
  have hp1 : (scanI (profE s) s.profiles.length 0).2 = 0 ∧ (scanI (grpsE s) s.profiles.length 0).2 = 0 := by
    rw [profilesE] at hp
    split at hp
    · rename_i h1; exact absurd hp h1
    · rename_i h1; exact ⟨Classical.not_not.1 h1, hp⟩
  have p1 := scanI_zero _ _ hp1.1
  have p2 := scanI_zero _ _ hp1.2
  have p3 := scanI_zero _ _ hl
  have p4 := scanI_zero _ _ ho
  have hgrp : ∀ p ∈ s.profiles, ∀ g ∈ p.groups, 0 ≤ profIx s g ∧ (profOf s g).groups.length = 0 := fun p hp g hg => by
    obtain ⟨i, hi, rfl⟩ := mem_nth hp
    obtain ⟨k, hk, rfl⟩ := mem_nth hg
    have h0 := scan_zero _ _ (p2 i (Nat.zero_le _) (by omega)) k (Nat.zero_le _) (by omega)
    rw [grpE, grpF] at h0
    have hz := firstE_zero h0
    have a1 := ite_zero (by decide) (hz _ (List.mem_cons_self ..))
    have a2 := ite_zero (by decide) (hz _ (List.mem_cons_of_mem _ (List.mem_cons_self ..)))
    refine ⟨by omega, ?_⟩
    rw [decide_eq_true (by omega), Bool.true_and, decide_eq_true_eq] at a2
    show (nth s.profiles _).groups.length = 0
    omega
  have hobj : ∀ i, i < s.objects.length → objE s i = 0 := fun i hi => p4 i (Nat.zero_le _) (by omega)
  refine ⟨hf, fun p hp g hg => (hgrp p hp g hg).1, fun p hp g hg => (hgrp p hp g hg).2, fun p hp => ?_, fun o ho => ?_, fun o ho => ?_, fun o ho => ?_, fun l hl => ?_, by omega, fun i hi => p1 i (Nat.zero_le _) (by omega), hobj, fun i hi => p3 i (Nat.zero_le _) (by omega)⟩
  · obtain ⟨i, hi, rfl⟩ := mem_nth hp
    have h0 := p1 i (Nat.zero_le _) (by omega)
    rw [profE_def] at h0
    have := ite_zero (by decide) (firstE_zero h0 _ (List.mem_cons_self ..))
    simpa using this
  · obtain ⟨i, hi, rfl⟩ := mem_nth ho
    have h0 := hobj i hi
    rw [objE_def] at h0
    have hz := firstE_zero h0
    simp only [List.mem_cons, List.not_mem_nil, or_false, forall_eq_or_imp, forall_eq] at hz
    obtain ⟨-, -, -, -, z, -⟩ := hz
    have := ite_zero (by decide) z
    refine ⟨hf.ogrants _ ho, fun hne => ?_⟩
    rw [decide_eq_true hne, Bool.true_and, decide_eq_true_eq] at this
    exact Int.not_lt.1 this
  · obtain ⟨i, hi, rfl⟩ := mem_nth ho
    have h0 := hobj i hi
    rw [objE_def] at h0
    have hz := firstE_zero h0
    simp only [List.mem_cons, List.not_mem_nil, or_false, forall_eq_or_imp, forall_eq] at hz
    obtain ⟨-, -, -, -, -, z, -⟩ := hz
    have := ite_zero (by decide) z
    intro hb hn
    exact this (by simp [hb, hn])
  · obtain ⟨i, hi, rfl⟩ := mem_nth ho
    have h0 := hobj i hi
    rw [objE_def] at h0
    have hz := firstE_zero h0
    simp only [List.mem_cons, List.not_mem_nil, or_false, forall_eq_or_imp, forall_eq] at hz
    exact hz.2.2.2.1
  · obtain ⟨i, hi, rfl⟩ := mem_nth hl
    have h0 := p3 i (Nat.zero_le _) (by omega)
    rw [listE_def] at h0
    have hz := firstE_zero h0
    simp only [List.mem_cons, List.not_mem_nil, or_false, forall_eq_or_imp, forall_eq] at hz
    exact hz.2.2.2.1

/-- The same but for the number and the order of private authorities: what walks of accesses need. -/
structure Sound1 (s : Sec) : Prop where
  fit : Fit s
  grouped : Grouped s
  named : ∀ p ∈ s.profiles, isNm p.name = true
  listed : ∀ o ∈ s.objects, Listed s o
  byList : ∀ o ∈ s.objects, o.byList = true → ¬ o.list = ⟨#[]⟩
  prng : ∀ o ∈ s.objects, ∀ g ∈ o.grants, inB g.auth 0 1023 = true
  lrng : ∀ l ∈ s.lists, ∀ g ∈ l.grants, inB g.auth 0 1023 = true
  pubL : ∀ l ∈ s.lists, inB l.pub 0 1023 = true
  pubO : ∀ o ∈ s.objects, inB o.pub 0 1023 = true
theorem grants_inB {s : Sec} {l : List Grant} (h : grantsE s l = 0) : ∀ g ∈ l, inB g.auth 0 1023 = true := fun g hg => by
  rw [grantsE] at h
  split at h
  · cases h
  obtain ⟨k, hk, rfl⟩ := mem_nth hg
  have h0 := scan_zero _ _ h k (Nat.zero_le _) (by omega)
  rw [grantE_def] at h0
  have z := firstE_zero h0
  simp only [List.mem_cons, List.not_mem_nil, or_false, forall_eq_or_imp, forall_eq] at z
  have := ite_zero (by decide) z.2.2
  simpa using this
theorem Sound.weak {s : Sec} (h : Sound s) : Sound1 s := by
  refine ⟨h.fit, h.grouped, h.named, h.listed, h.byList, fun o ho => grants_inB (h.pgrants o ho), fun l hl => grants_inB (h.lgrants l hl), fun l hl => ?_, fun o ho => ?_⟩
  · obtain ⟨i, hi, rfl⟩ := mem_nth hl
    have h0 := h.lists i hi
    rw [listE_def] at h0
    have z := firstE_zero h0
    simp only [List.mem_cons, List.not_mem_nil, or_false, forall_eq_or_imp, forall_eq] at z
    have := ite_zero (by decide) z.2.2.2.2
    simpa using this
  · obtain ⟨i, hi, rfl⟩ := mem_nth ho
    have h0 := h.objs i hi
    rw [objE_def] at h0
    have z := firstE_zero h0
    simp only [List.mem_cons, List.not_mem_nil, or_false, forall_eq_or_imp, forall_eq] at z
    have := ite_zero (by decide) z.2.2.2.2.2.2
    simpa using this

def objOf (s : Sec) (i : Int) : Secured := nth s.objects i.toNat
def zeroF : Found := ⟨0, 0, ⟨#[]⟩⟩
def authErr (s : Sec) (u : ByteArray) (i : Int) : Int := firstE [(secE s).2, userE s u, ixE s i]
def AuthorityOfP (s : Sec) (u : ByteArray) (i : Int) : Found × Int := if ¬ authErr s u i = 0 then (zeroF, authErr s u i) else (authorityP s u (objOf s i), 0)

theorem ixE_zero {s : Sec} {i : Int} (h : ixE s i = 0) : 0 ≤ i ∧ i < (s.objects.length : Int) ∧ i.toNat < s.objects.length := by
  have h1 := ite_zero (by decide) h
  simp [inB] at h1
  omega
theorem userE_zero {s : Sec} {u : ByteArray} (h : userE s u = 0) : 0 ≤ profIx s u := Int.not_lt.1 (ite_zero (by decide) h)

set_option maxHeartbeats 4000000 in
theorem AuthorityOf_good (s : Sec) (u : ByteArray) (i : Int) (hs : Fit s) : Ans Try.prog 20 [.agg (encSec s), .str u, .int .i64 i] (.tup [.agg (encFound (AuthorityOfP s u i).1), .int .i64 (AuthorityOfP s u i).2]) := by
  have hE : authErr s u i = firstE [(secE s).2, userE s u, ixE s i] := rfl
  refine good_run [] mixed Try.func20 rfl Try.ntmps20 (rs := [.cell 6 36, .tmp 7]) rfl (by decide +kernel) (by kernel_rfl) rfl ?_
  rw [startE_eq 31 _ _ _ rfl rfl]
  set_option maxRecDepth 100000 in simp (maxSteps := 10000000) only [go_sem, Nat.reduceAdd, Nat.reduceSub, Nat.reduceMul, Nat.reduceLT, Nat.reduceLeDiff, Nat.reduceEqDiff, Nat.reduceMod, Nat.reduceDiv, Int.reduceNeg, Int.reduceLE, Int.reduceLT, Int.reduceToNat, Int.reduceEq, Int.reduceNe, ↓reduceIte]
  refine callD_of (securityErr_good s hs) ?_
  set_option maxRecDepth 100000 in simp (maxSteps := 10000000) only [go_sem, Nat.reduceAdd, Nat.reduceSub, Nat.reduceMul, Nat.reduceLT, Nat.reduceLeDiff, Nat.reduceEqDiff, Nat.reduceMod, Nat.reduceDiv, Int.reduceNeg, Int.reduceLE, Int.reduceLT, Int.reduceToNat, Int.reduceEq, Int.reduceNe, ↓reduceIte]
  refine callD_of (userErr_good s u hs) ?_
  set_option maxRecDepth 100000 in simp (maxSteps := 10000000) only [go_sem, Nat.reduceAdd, Nat.reduceSub, Nat.reduceMul, Nat.reduceLT, Nat.reduceLeDiff, Nat.reduceEqDiff, Nat.reduceMod, Nat.reduceDiv, Int.reduceNeg, Int.reduceLE, Int.reduceLT, Int.reduceToNat, Int.reduceEq, Int.reduceNe, ↓reduceIte]
  refine callD_of (objectErr_good s i hs) ?_
  set_option maxRecDepth 100000 in simp (maxSteps := 10000000) only [go_sem, Nat.reduceAdd, Nat.reduceSub, Nat.reduceMul, Nat.reduceLT, Nat.reduceLeDiff, Nat.reduceEqDiff, Nat.reduceMod, Nat.reduceDiv, Int.reduceNeg, Int.reduceLE, Int.reduceLT, Int.reduceToNat, Int.reduceEq, Int.reduceNe, ↓reduceIte]
  refine callD_of (first3_good _ _ _) ?_
  set_option maxRecDepth 100000 in simp (maxSteps := 10000000) only [go_sem, Nat.reduceAdd, Nat.reduceSub, Nat.reduceMul, Nat.reduceLT, Nat.reduceLeDiff, Nat.reduceEqDiff, Nat.reduceMod, Nat.reduceDiv, Int.reduceNeg, Int.reduceLE, Int.reduceLT, Int.reduceToNat, Int.reduceEq, Int.reduceNe, ↓reduceIte]
  refine ⟨by decide +kernel, ifI (fun h => ?_) fun h => ?_⟩
  · set_option maxRecDepth 100000 in simp (maxSteps := 10000000) only [go_sem, Nat.reduceAdd, Nat.reduceSub, Nat.reduceMul, Nat.reduceLT, Nat.reduceLeDiff, Nat.reduceEqDiff, Nat.reduceMod, Nat.reduceDiv, Int.reduceNeg, Int.reduceLE, Int.reduceLT, Int.reduceToNat, Int.reduceEq, Int.reduceNe, ↓reduceIte]
    have hI : AuthorityOfP s u i = (zeroF, authErr s u i) := by rw [AuthorityOfP, if_pos (hE ▸ h)]
    simp [hI, zeroF, hE]
  have h0 : authErr s u i = 0 := Classical.not_not.1 h
  have hz := firstE_zero h0
  simp only [List.mem_cons, List.not_mem_nil, or_false, forall_eq_or_imp, forall_eq] at hz
  have hS := sound_of hs hz.1
  have hix := ixE_zero hz.2.2
  have i1 := hix.1; have i2 := hix.2.1; have i3 := hix.2.2
  have hoo : nth s.objects i.toNat = objOf s i := rfl
  have hmem : objOf s i ∈ s.objects := nth_mem i3
  set_option maxRecDepth 100000 in simp (maxSteps := 10000000) only [go_sem, Nat.reduceAdd, Nat.reduceSub, Nat.reduceMul, Nat.reduceLT, Nat.reduceLeDiff, Nat.reduceEqDiff, Nat.reduceMod, Nat.reduceDiv, Int.reduceNeg, Int.reduceLE, Int.reduceLT, Int.reduceToNat, Int.reduceEq, Int.reduceNe, ↓reduceIte,  i1, i2, i3, hoo]
  refine callD_of (authority_good s u (objOf s i) hs hS.grouped (userE_zero hz.2.1) (hS.listed _ hmem) (hS.byList _ hmem)) ?_
  set_option maxRecDepth 100000 in simp (maxSteps := 10000000) only [go_sem, Nat.reduceAdd, Nat.reduceSub, Nat.reduceMul, Nat.reduceLT, Nat.reduceLeDiff, Nat.reduceEqDiff, Nat.reduceMod, Nat.reduceDiv, Int.reduceNeg, Int.reduceLE, Int.reduceLT, Int.reduceToNat, Int.reduceEq, Int.reduceNe, ↓reduceIte]
  refine ⟨by decide +kernel, ?_⟩
  have hI : AuthorityOfP s u i = (authorityP s u (objOf s i), 0) := by rw [AuthorityOfP, if_neg (not_not_intro h0)]
  simp [hI]

def reqE0 (s : Sec) (r : Req) : Int := firstE [userE s r.user, ixE s r.object, if (6 : Int) < (r.adopters.length : Int) then 2 else 0]
def adoE (s : Sec) (r : Req) : Int := scan (fun k => userE s (nth r.adopters k)) r.adopters.length 0
def reqE (s : Sec) (r : Req) : Int := if ¬ reqE0 s r = 0 then reqE0 s r else if ¬ adoE s r = 0 then adoE s r else if (!inB r.needed 0 1023) = true then 3 else 0

set_option maxHeartbeats 4000000 in
theorem requestErr_good (s : Sec) (r : Req) (hs : Fit s) (hr : r.adopters.length ≤ 1000000) : Ans Try.prog 74 [.agg (encSec s), .agg (encReq r)] (.int .i64 (reqE s r)) := by
  have hE : reqE0 s r = firstE [userE s r.user, ixE s r.object, if (6 : Int) < (r.adopters.length : Int) then 2 else 0] := rfl
  refine good_run [(5, [4, 7, 8, 31, 32, 33, 34, 35, 36, 37, 38, 39, 40], [])] mixed Try.func74 rfl Try.ntmps74 (rs := [.tmp 4]) rfl (by decide +kernel) (by kernel_rfl) rfl ?_
  rw [startE_eq 46 _ _ _ rfl rfl]
  set_option maxRecDepth 100000 in simp (maxSteps := 10000000) only [go_sem, Nat.reduceAdd, Nat.reduceSub, Nat.reduceMul, Nat.reduceLT, Nat.reduceLeDiff, Nat.reduceEqDiff, Nat.reduceMod, Nat.reduceDiv, Int.reduceNeg, Int.reduceLE, Int.reduceLT, Int.reduceToNat, Int.reduceEq, Int.reduceNe, ↓reduceIte]
  refine callD_of (userErr_good s _ hs) ?_
  set_option maxRecDepth 100000 in simp (maxSteps := 10000000) only [go_sem, Nat.reduceAdd, Nat.reduceSub, Nat.reduceMul, Nat.reduceLT, Nat.reduceLeDiff, Nat.reduceEqDiff, Nat.reduceMod, Nat.reduceDiv, Int.reduceNeg, Int.reduceLE, Int.reduceLT, Int.reduceToNat, Int.reduceEq, Int.reduceNe, ↓reduceIte]
  refine callD_of (objectErr_good s _ hs) ?_
  set_option maxRecDepth 100000 in simp (maxSteps := 10000000) only [go_sem, Nat.reduceAdd, Nat.reduceSub, Nat.reduceMul, Nat.reduceLT, Nat.reduceLeDiff, Nat.reduceEqDiff, Nat.reduceMod, Nat.reduceDiv, Int.reduceNeg, Int.reduceLE, Int.reduceLT, Int.reduceToNat, Int.reduceEq, Int.reduceNe, ↓reduceIte]
  refine callD_of (cond_good _ _) ?_
  set_option maxRecDepth 100000 in simp (maxSteps := 10000000) only [go_sem, Nat.reduceAdd, Nat.reduceSub, Nat.reduceMul, Nat.reduceLT, Nat.reduceLeDiff, Nat.reduceEqDiff, Nat.reduceMod, Nat.reduceDiv, Int.reduceNeg, Int.reduceLE, Int.reduceLT, Int.reduceToNat, Int.reduceEq, Int.reduceNe, ↓reduceIte]
  refine callD_of (first3_good _ _ _) ?_
  set_option maxRecDepth 100000 in simp (maxSteps := 10000000) only [go_sem, Nat.reduceAdd, Nat.reduceSub, Nat.reduceMul, Nat.reduceLT, Nat.reduceLeDiff, Nat.reduceEqDiff, Nat.reduceMod, Nat.reduceDiv, Int.reduceNeg, Int.reduceLE, Int.reduceLT, Int.reduceToNat, Int.reduceEq, Int.reduceNe, ↓reduceIte]
  refine ⟨by decide +kernel, ifI (fun h => ?_) fun h => ?_⟩
  · set_option maxRecDepth 100000 in simp (maxSteps := 10000000) only [go_sem, Nat.reduceAdd, Nat.reduceSub, Nat.reduceMul, Nat.reduceLT, Nat.reduceLeDiff, Nat.reduceEqDiff, Nat.reduceMod, Nat.reduceDiv, Int.reduceNeg, Int.reduceLE, Int.reduceLT, Int.reduceToNat, Int.reduceEq, Int.reduceNe, ↓reduceIte]
    have h' : ¬ reqE0 s r = 0 := h
    rw [reqE, if_pos h']; rfl
  have h0 : reqE0 s r = 0 := Classical.not_not.1 h
  have hR : reqE s r = if ¬ adoE s r = 0 then adoE s r else if (!inB r.needed 0 1023) = true then 3 else 0 := by rw [reqE, if_neg (not_not_intro h0)]
  set_option maxRecDepth 100000 in simp (maxSteps := 10000000) only [go_sem, Nat.reduceAdd, Nat.reduceSub, Nat.reduceMul, Nat.reduceLT, Nat.reduceLeDiff, Nat.reduceEqDiff, Nat.reduceMod, Nat.reduceDiv, Int.reduceNeg, Int.reduceLE, Int.reduceLT, Int.reduceToNat, Int.reduceEq, Int.reduceNe, ↓reduceIte]
  refine loop_by ([4, 7, 8, 31, 32, 33, 34, 35, 36, 37, 38, 39, 40], []) (fun i : Nat => [(.s 30, .int .i64 (i : Int))]) (fun i => r.adopters.length - i) (fun i => i ≤ r.adopters.length ∧ adoE s r = scan (fun k => userE s (nth r.adopters k)) (r.adopters.length - i) i) 0 rfl ⟨Nat.zero_le _, rfl⟩ rfl ?_
  rintro c' st' hst i ⟨hi, hf⟩ ih
  set_option maxRecDepth 100000 in simp (maxSteps := 10000000) only [go_sem, Nat.reduceAdd, Nat.reduceSub, Nat.reduceMul, Nat.reduceLT, Nat.reduceLeDiff, Nat.reduceEqDiff, Nat.reduceMod, Nat.reduceDiv, Int.reduceNeg, Int.reduceLE, Int.reduceLT, Int.reduceToNat, Int.reduceEq, Int.reduceNe, ↓reduceIte]
  refine ifI (fun hlt => ?_) fun hlt => ?_
  · set_option maxRecDepth 100000 in simp (maxSteps := 10000000) only [go_sem, Nat.reduceAdd, Nat.reduceSub, Nat.reduceMul, Nat.reduceLT, Nat.reduceLeDiff, Nat.reduceEqDiff, Nat.reduceMod, Nat.reduceDiv, Int.reduceNeg, Int.reduceLE, Int.reduceLT, Int.reduceToNat, Int.reduceEq, Int.reduceNe, ↓reduceIte,  hlt]
    refine call_of (userErr_good s _ hs) ?_
    set_option maxRecDepth 100000 in simp (maxSteps := 10000000) only [go_sem, Nat.reduceAdd, Nat.reduceSub, Nat.reduceMul, Nat.reduceLT, Nat.reduceLeDiff, Nat.reduceEqDiff, Nat.reduceMod, Nat.reduceDiv, Int.reduceNeg, Int.reduceLE, Int.reduceLT, Int.reduceToNat, Int.reduceEq, Int.reduceNe, ↓reduceIte]
    refine ifI (fun h1 => ?_) fun h1 => ?_
    · set_option maxRecDepth 100000 in simp (maxSteps := 10000000) only [go_sem, Nat.reduceAdd, Nat.reduceSub, Nat.reduceMul, Nat.reduceLT, Nat.reduceLeDiff, Nat.reduceEqDiff, Nat.reduceMod, Nat.reduceDiv, Int.reduceNeg, Int.reduceLE, Int.reduceLT, Int.reduceToNat, Int.reduceEq, Int.reduceNe, ↓reduceIte]
      have h2 : adoE s r = userE s (nth r.adopters i) := hf.trans (scan_hit hlt rfl h1)
      rw [hR, h2, if_pos h1]
    · set_option maxRecDepth 100000 in simp (maxSteps := 10000000) only [go_sem, Nat.reduceAdd, Nat.reduceSub, Nat.reduceMul, Nat.reduceLT, Nat.reduceLeDiff, Nat.reduceEqDiff, Nat.reduceMod, Nat.reduceDiv, Int.reduceNeg, Int.reduceLE, Int.reduceLT, Int.reduceToNat, Int.reduceEq, Int.reduceNe, ↓reduceIte]
      refine ih (i + 1) _ ⟨by omega, hf.trans (scan_skip hlt (Classical.not_not.1 h1))⟩ (by omega) ?_
      set_option maxRecDepth 100000 in simp (maxSteps := 10000000) only [go_sem, Nat.reduceAdd, Nat.reduceSub, Nat.reduceMul, Nat.reduceLT, Nat.reduceLeDiff, Nat.reduceEqDiff, Nat.reduceMod, Nat.reduceDiv, Int.reduceNeg, Int.reduceLE, Int.reduceLT, Int.reduceToNat, Int.reduceEq, Int.reduceNe, ↓reduceIte,  wrap_succ (show i < 9223372036854775807 by omega)]
  · subst hst
    set_option maxRecDepth 100000 in simp (maxSteps := 10000000) only [go_sem, Nat.reduceAdd, Nat.reduceSub, Nat.reduceMul, Nat.reduceLT, Nat.reduceLeDiff, Nat.reduceEqDiff, Nat.reduceMod, Nat.reduceDiv, Int.reduceNeg, Int.reduceLE, Int.reduceLT, Int.reduceToNat, Int.reduceEq, Int.reduceNe, ↓reduceIte]
    refine call_of (isAuthority_good _) ?_
    set_option maxRecDepth 100000 in simp (maxSteps := 10000000) only [go_sem, Nat.reduceAdd, Nat.reduceSub, Nat.reduceMul, Nat.reduceLT, Nat.reduceLeDiff, Nat.reduceEqDiff, Nat.reduceMod, Nat.reduceDiv, Int.reduceNeg, Int.reduceLE, Int.reduceLT, Int.reduceToNat, Int.reduceEq, Int.reduceNe, ↓reduceIte]
    refine call_of (cond_good _ _) ?_
    set_option maxRecDepth 100000 in simp (maxSteps := 10000000) only [go_sem, Nat.reduceAdd, Nat.reduceSub, Nat.reduceMul, Nat.reduceLT, Nat.reduceLeDiff, Nat.reduceEqDiff, Nat.reduceMod, Nat.reduceDiv, Int.reduceNeg, Int.reduceLE, Int.reduceLT, Int.reduceToNat, Int.reduceEq, Int.reduceNe, ↓reduceIte]
    have h2 : adoE s r = 0 := by rw [hf, show r.adopters.length - i = 0 by omega]; rfl
    rw [hR, h2]; rfl

def adoP (s : Sec) (o : Secured) (n : Int) : List ByteArray → Int → Option (Int × ByteArray)
  | [], _ => none
  | a :: l, x => if incB (if (itselfP s a o).2 = true then Go.bits .or .i64 x (itselfP s a o).1.auth else x) n = true then some (if (itselfP s a o).2 = true then Go.bits .or .i64 x (itselfP s a o).1.auth else x, a)
    else adoP s o n l (if (itselfP s a o).2 = true then Go.bits .or .i64 x (itselfP s a o).1.auth else x)
def accP (s : Sec) (r : Req) : Found × Bool :=
  if incB (authorityP s r.user (objOf s r.object)).auth r.needed = true then (authorityP s r.user (objOf s r.object), true)
  else match adoP s (objOf s r.object) r.needed r.adopters (authorityP s r.user (objOf s r.object)).auth with
    | some (x, a) => (⟨x, 7, a⟩, true)
    | none => (authorityP s r.user (objOf s r.object), false)

set_option maxHeartbeats 4000000 in
theorem access_good1 (s : Sec) (r : Req) (hS : Sound1 s) (hr : r.adopters.length ≤ 1000000) (hu : 0 ≤ profIx s r.user) (hix : 0 ≤ r.object ∧ r.object < (s.objects.length : Int) ∧ r.object.toNat < s.objects.length) (ha : ∀ a ∈ r.adopters, 0 ≤ profIx s a) :
    Ans Try.prog 75 [.agg (encSec s), .agg (encReq r)] (.tup [.agg (encFound (accP s r).1), .bool (accP s r).2]) := by
  have hs := hS.fit
  have i1 := hix.1; have i2 := hix.2.1; have i3 := hix.2.2
  have hoo : nth s.objects r.object.toNat = objOf s r.object := rfl
  have hmem : objOf s r.object ∈ s.objects := nth_mem i3
  refine good_run [(7, [5, 10, 11, 12, 36, 37, 38, 39, 40, 41, 42, 43, 44, 45, 46, 47, 48, 49, 50, 51, 52, 53, 54, 55, 56, 57, 58], [11])] mixed Try.func75 rfl Try.ntmps75 (rs := [.cell 4 36, .tmp 5]) rfl (by decide +kernel) (by kernel_rfl) rfl ?_
  rw [startE_eq 60 _ _ _ rfl rfl]
  set_option maxRecDepth 100000 in simp (maxSteps := 10000000) only [go_sem, Nat.reduceAdd, Nat.reduceSub, Nat.reduceMul, Nat.reduceLT, Nat.reduceLeDiff, Nat.reduceEqDiff, Nat.reduceMod, Nat.reduceDiv, Int.reduceNeg, Int.reduceLE, Int.reduceLT, Int.reduceToNat, Int.reduceEq, Int.reduceNe, ↓reduceIte,  i1, i2, i3, hoo]
  refine call_of (authority_good s r.user (objOf s r.object) hs hS.grouped hu (hS.listed _ hmem) (hS.byList _ hmem)) ?_
  set_option maxRecDepth 100000 in simp (maxSteps := 10000000) only [go_sem, Nat.reduceAdd, Nat.reduceSub, Nat.reduceMul, Nat.reduceLT, Nat.reduceLeDiff, Nat.reduceEqDiff, Nat.reduceMod, Nat.reduceDiv, Int.reduceNeg, Int.reduceLE, Int.reduceLT, Int.reduceToNat, Int.reduceEq, Int.reduceNe, ↓reduceIte]
  refine call_of (includes_good _ _) ?_
  set_option maxRecDepth 100000 in simp (maxSteps := 10000000) only [go_sem, Nat.reduceAdd, Nat.reduceSub, Nat.reduceMul, Nat.reduceLT, Nat.reduceLeDiff, Nat.reduceEqDiff, Nat.reduceMod, Nat.reduceDiv, Int.reduceNeg, Int.reduceLE, Int.reduceLT, Int.reduceToNat, Int.reduceEq, Int.reduceNe, ↓reduceIte]
  refine ifI (fun h1 => ?_) fun h1 => ?_
  · set_option maxRecDepth 100000 in simp (maxSteps := 10000000) only [go_sem, Nat.reduceAdd, Nat.reduceSub, Nat.reduceMul, Nat.reduceLT, Nat.reduceLeDiff, Nat.reduceEqDiff, Nat.reduceMod, Nat.reduceDiv, Int.reduceNeg, Int.reduceLE, Int.reduceLT, Int.reduceToNat, Int.reduceEq, Int.reduceNe, ↓reduceIte]
    have hI : accP s r = (authorityP s r.user (objOf s r.object), true) := by rw [accP, if_pos h1]
    simp [hI]
  have hA : accP s r = match adoP s (objOf s r.object) r.needed r.adopters (authorityP s r.user (objOf s r.object)).auth with
    | some (x, a) => (⟨x, 7, a⟩, true)
    | none => (authorityP s r.user (objOf s r.object), false) := by rw [accP, if_neg h1]
  set_option maxRecDepth 100000 in simp (maxSteps := 10000000) only [go_sem, Nat.reduceAdd, Nat.reduceSub, Nat.reduceMul, Nat.reduceLT, Nat.reduceLeDiff, Nat.reduceEqDiff, Nat.reduceMod, Nat.reduceDiv, Int.reduceNeg, Int.reduceLE, Int.reduceLT, Int.reduceToNat, Int.reduceEq, Int.reduceNe, ↓reduceIte]
  refine loop_by ([5, 10, 11, 12, 36, 37, 38, 39, 40, 41, 42, 43, 44, 45, 46, 47, 48, 49, 50, 51, 52, 53, 54, 55, 56, 57, 58], [11]) (fun x : Nat × Int => [(.s 35, .int .i64 (x.1 : Int)), (.s 8, .int .i64 x.2), (.o 11, deadV x.1)]) (fun x => r.adopters.length - x.1)
    (fun x => x.1 ≤ r.adopters.length ∧ adoP s (objOf s r.object) r.needed r.adopters (authorityP s r.user (objOf s r.object)).auth = adoP s (objOf s r.object) r.needed (r.adopters.drop x.1) x.2) (0, (authorityP s r.user (objOf s r.object)).auth) rfl ⟨Nat.zero_le _, rfl⟩ ?_ ?_
  · set_option maxRecDepth 100000 in simp (maxSteps := 10000000) only [go_sem, Nat.reduceAdd, Nat.reduceSub, Nat.reduceMul, Nat.reduceLT, Nat.reduceLeDiff, Nat.reduceEqDiff, Nat.reduceMod, Nat.reduceDiv, Int.reduceNeg, Int.reduceLE, Int.reduceLT, Int.reduceToNat, Int.reduceEq, Int.reduceNe, ↓reduceIte]
  rintro c' st' hst ⟨i, x⟩ ⟨hi, hf⟩ ih
  simp only at hi hf
  set_option maxRecDepth 100000 in simp (maxSteps := 10000000) only [go_sem, Nat.reduceAdd, Nat.reduceSub, Nat.reduceMul, Nat.reduceLT, Nat.reduceLeDiff, Nat.reduceEqDiff, Nat.reduceMod, Nat.reduceDiv, Int.reduceNeg, Int.reduceLE, Int.reduceLT, Int.reduceToNat, Int.reduceEq, Int.reduceNe, ↓reduceIte]
  refine ifI (fun hlt => ?_) fun hlt => ?_
  · set_option maxRecDepth 100000 in simp (maxSteps := 10000000) only [go_sem, Nat.reduceAdd, Nat.reduceSub, Nat.reduceMul, Nat.reduceLT, Nat.reduceLeDiff, Nat.reduceEqDiff, Nat.reduceMod, Nat.reduceDiv, Int.reduceNeg, Int.reduceLE, Int.reduceLT, Int.reduceToNat, Int.reduceEq, Int.reduceNe, ↓reduceIte,  hlt]
    refine call_of (itself_good s _ (objOf s r.object) hs (ha _ (nth_mem hlt)) (hS.listed _ hmem)) ?_
    set_option maxRecDepth 100000 in simp (maxSteps := 10000000) only [go_sem, Nat.reduceAdd, Nat.reduceSub, Nat.reduceMul, Nat.reduceLT, Nat.reduceLeDiff, Nat.reduceEqDiff, Nat.reduceMod, Nat.reduceDiv, Int.reduceNeg, Int.reduceLE, Int.reduceLT, Int.reduceToNat, Int.reduceEq, Int.reduceNe, ↓reduceIte]
    rw [drop_nth hlt, adoP] at hf
    refine ifI (fun h2 => ?_) fun h2 => ?_
    · rw [if_pos h2] at hf
      set_option maxRecDepth 100000 in simp (maxSteps := 10000000) only [go_sem, Nat.reduceAdd, Nat.reduceSub, Nat.reduceMul, Nat.reduceLT, Nat.reduceLeDiff, Nat.reduceEqDiff, Nat.reduceMod, Nat.reduceDiv, Int.reduceNeg, Int.reduceLE, Int.reduceLT, Int.reduceToNat, Int.reduceEq, Int.reduceNe, ↓reduceIte]
      refine call_of (includes_good _ _) ?_
      set_option maxRecDepth 100000 in simp (maxSteps := 10000000) only [go_sem, Nat.reduceAdd, Nat.reduceSub, Nat.reduceMul, Nat.reduceLT, Nat.reduceLeDiff, Nat.reduceEqDiff, Nat.reduceMod, Nat.reduceDiv, Int.reduceNeg, Int.reduceLE, Int.reduceLT, Int.reduceToNat, Int.reduceEq, Int.reduceNe, ↓reduceIte]
      refine ifI (fun h3 => ?_) fun h3 => ?_
      · set_option maxRecDepth 100000 in simp (maxSteps := 10000000) only [go_sem, Nat.reduceAdd, Nat.reduceSub, Nat.reduceMul, Nat.reduceLT, Nat.reduceLeDiff, Nat.reduceEqDiff, Nat.reduceMod, Nat.reduceDiv, Int.reduceNeg, Int.reduceLE, Int.reduceLT, Int.reduceToNat, Int.reduceEq, Int.reduceNe, ↓reduceIte]
        rw [if_pos h3] at hf
        have hI : accP s r = (⟨Go.bits .or .i64 x (itselfP s (nth r.adopters i) (objOf s r.object)).1.auth, 7, nth r.adopters i⟩, true) := by rw [hA, hf]
        simp [hI]
      · set_option maxRecDepth 100000 in simp (maxSteps := 10000000) only [go_sem, Nat.reduceAdd, Nat.reduceSub, Nat.reduceMul, Nat.reduceLT, Nat.reduceLeDiff, Nat.reduceEqDiff, Nat.reduceMod, Nat.reduceDiv, Int.reduceNeg, Int.reduceLE, Int.reduceLT, Int.reduceToNat, Int.reduceEq, Int.reduceNe, ↓reduceIte]
        rw [if_neg h3] at hf
        refine ih (i + 1, Go.bits .or .i64 x (itselfP s (nth r.adopters i) (objOf s r.object)).1.auth) _ ⟨by simp only; omega, hf⟩ (by simp only; omega) ?_
        set_option maxRecDepth 100000 in simp (maxSteps := 10000000) only [go_sem, Nat.reduceAdd, Nat.reduceSub, Nat.reduceMul, Nat.reduceLT, Nat.reduceLeDiff, Nat.reduceEqDiff, Nat.reduceMod, Nat.reduceDiv, Int.reduceNeg, Int.reduceLE, Int.reduceLT, Int.reduceToNat, Int.reduceEq, Int.reduceNe, ↓reduceIte,  wrap_succ (show i < 9223372036854775807 by omega)]
    · rw [if_neg h2] at hf
      set_option maxRecDepth 100000 in simp (maxSteps := 10000000) only [go_sem, Nat.reduceAdd, Nat.reduceSub, Nat.reduceMul, Nat.reduceLT, Nat.reduceLeDiff, Nat.reduceEqDiff, Nat.reduceMod, Nat.reduceDiv, Int.reduceNeg, Int.reduceLE, Int.reduceLT, Int.reduceToNat, Int.reduceEq, Int.reduceNe, ↓reduceIte]
      refine call_of (includes_good _ _) ?_
      set_option maxRecDepth 100000 in simp (maxSteps := 10000000) only [go_sem, Nat.reduceAdd, Nat.reduceSub, Nat.reduceMul, Nat.reduceLT, Nat.reduceLeDiff, Nat.reduceEqDiff, Nat.reduceMod, Nat.reduceDiv, Int.reduceNeg, Int.reduceLE, Int.reduceLT, Int.reduceToNat, Int.reduceEq, Int.reduceNe, ↓reduceIte]
      refine ifI (fun h3 => ?_) fun h3 => ?_
      · set_option maxRecDepth 100000 in simp (maxSteps := 10000000) only [go_sem, Nat.reduceAdd, Nat.reduceSub, Nat.reduceMul, Nat.reduceLT, Nat.reduceLeDiff, Nat.reduceEqDiff, Nat.reduceMod, Nat.reduceDiv, Int.reduceNeg, Int.reduceLE, Int.reduceLT, Int.reduceToNat, Int.reduceEq, Int.reduceNe, ↓reduceIte]
        rw [if_pos h3] at hf
        have hI : accP s r = (⟨x, 7, nth r.adopters i⟩, true) := by rw [hA, hf]
        simp [hI]
      · set_option maxRecDepth 100000 in simp (maxSteps := 10000000) only [go_sem, Nat.reduceAdd, Nat.reduceSub, Nat.reduceMul, Nat.reduceLT, Nat.reduceLeDiff, Nat.reduceEqDiff, Nat.reduceMod, Nat.reduceDiv, Int.reduceNeg, Int.reduceLE, Int.reduceLT, Int.reduceToNat, Int.reduceEq, Int.reduceNe, ↓reduceIte]
        rw [if_neg h3] at hf
        refine ih (i + 1, x) _ ⟨by simp only; omega, hf⟩ (by simp only; omega) ?_
        set_option maxRecDepth 100000 in simp (maxSteps := 10000000) only [go_sem, Nat.reduceAdd, Nat.reduceSub, Nat.reduceMul, Nat.reduceLT, Nat.reduceLeDiff, Nat.reduceEqDiff, Nat.reduceMod, Nat.reduceDiv, Int.reduceNeg, Int.reduceLE, Int.reduceLT, Int.reduceToNat, Int.reduceEq, Int.reduceNe, ↓reduceIte,  wrap_succ (show i < 9223372036854775807 by omega)]
  · subst hst
    set_option maxRecDepth 100000 in simp (maxSteps := 10000000) only [go_sem, Nat.reduceAdd, Nat.reduceSub, Nat.reduceMul, Nat.reduceLT, Nat.reduceLeDiff, Nat.reduceEqDiff, Nat.reduceMod, Nat.reduceDiv, Int.reduceNeg, Int.reduceLE, Int.reduceLT, Int.reduceToNat, Int.reduceEq, Int.reduceNe, ↓reduceIte]
    rw [List.drop_eq_nil_of_le (by omega)] at hf
    have hI : accP s r = (authorityP s r.user (objOf s r.object), false) := by rw [hA, hf]; rfl
    simp [hI]

theorem access_good (s : Sec) (r : Req) (hS : Sound s) (hr : r.adopters.length ≤ 1000000) (hu : 0 ≤ profIx s r.user) (hix : 0 ≤ r.object ∧ r.object < (s.objects.length : Int) ∧ r.object.toNat < s.objects.length) (ha : ∀ a ∈ r.adopters, 0 ≤ profIx s a) :
    Ans Try.prog 75 [.agg (encSec s), .agg (encReq r)] (.tup [.agg (encFound (accP s r).1), .bool (accP s r).2]) := access_good1 s r hS.weak hr hu hix ha

def accErr (s : Sec) (r : Req) : Int := if ¬ (secE s).2 = 0 then (secE s).2 else reqE s r
def AccessP (s : Sec) (r : Req) : Found × Bool := if ¬ accErr s r = 0 then (zeroF, false) else accP s r

theorem reqE_zero {s : Sec} {r : Req} (h : reqE s r = 0) : 0 ≤ profIx s r.user ∧ (0 ≤ r.object ∧ r.object < (s.objects.length : Int) ∧ r.object.toNat < s.objects.length) ∧ (∀ a ∈ r.adopters, 0 ≤ profIx s a) ∧ inB r.needed 0 1023 = true ∧ r.adopters.length ≤ 6 := by
  rw [reqE] at h
  split at h
  · rename_i h1; exact absurd h h1
  rename_i h1
  split at h
  · rename_i h2; exact absurd h h2
  rename_i h2
  have z := firstE_zero (Classical.not_not.1 h1)
  simp only [List.mem_cons, List.not_mem_nil, or_false, forall_eq_or_imp, forall_eq] at z
  have z3 := ite_zero (by decide) z.2.2
  refine ⟨userE_zero z.1, ixE_zero z.2.1, fun a ha => ?_, ?_, by omega⟩
  · obtain ⟨k, hk, rfl⟩ := mem_nth ha
    exact userE_zero (scan_zero _ _ (Classical.not_not.1 h2) k (Nat.zero_le _) (by omega))
  · have := ite_zero (by decide) h
    simpa using this

set_option maxHeartbeats 4000000 in
theorem Access_good (s : Sec) (r : Req) (hs : Fit s) (hr : r.adopters.length ≤ 1000000) : Ans Try.prog 26 [.agg (encSec s), .agg (encReq r)] (.tup [.agg (encFound (AccessP s r).1), .bool (AccessP s r).2, .int .i64 (accErr s r)]) := by
  refine good_run [] mixed Try.func26 rfl Try.ntmps26 (rs := [.cell 4 36, .tmp 5, .tmp 6]) rfl (by decide +kernel) (by kernel_rfl) rfl ?_
  rw [startE_eq 32 _ _ _ rfl rfl]
  set_option maxRecDepth 100000 in simp (maxSteps := 10000000) only [go_sem, Nat.reduceAdd, Nat.reduceSub, Nat.reduceMul, Nat.reduceLT, Nat.reduceLeDiff, Nat.reduceEqDiff, Nat.reduceMod, Nat.reduceDiv, Int.reduceNeg, Int.reduceLE, Int.reduceLT, Int.reduceToNat, Int.reduceEq, Int.reduceNe, ↓reduceIte]
  refine call_of (securityErr_good s hs) ?_
  set_option maxRecDepth 100000 in simp (maxSteps := 10000000) only [go_sem, Nat.reduceAdd, Nat.reduceSub, Nat.reduceMul, Nat.reduceLT, Nat.reduceLeDiff, Nat.reduceEqDiff, Nat.reduceMod, Nat.reduceDiv, Int.reduceNeg, Int.reduceLE, Int.reduceLT, Int.reduceToNat, Int.reduceEq, Int.reduceNe, ↓reduceIte]
  refine ifI (fun h1 => ?_) fun h1 => ?_
  · set_option maxRecDepth 100000 in simp (maxSteps := 10000000) only [go_sem, Nat.reduceAdd, Nat.reduceSub, Nat.reduceMul, Nat.reduceLT, Nat.reduceLeDiff, Nat.reduceEqDiff, Nat.reduceMod, Nat.reduceDiv, Int.reduceNeg, Int.reduceLE, Int.reduceLT, Int.reduceToNat, Int.reduceEq, Int.reduceNe, ↓reduceIte]
    have hE : accErr s r = (secE s).2 := by rw [accErr, if_pos h1]
    have hI : AccessP s r = (zeroF, false) := by rw [AccessP, hE, if_pos h1]
    simp [hI, hE, zeroF]
  have h1' : (secE s).2 = 0 := Classical.not_not.1 h1
  have hE : accErr s r = reqE s r := by rw [accErr, if_neg h1]
  set_option maxRecDepth 100000 in simp (maxSteps := 10000000) only [go_sem, Nat.reduceAdd, Nat.reduceSub, Nat.reduceMul, Nat.reduceLT, Nat.reduceLeDiff, Nat.reduceEqDiff, Nat.reduceMod, Nat.reduceDiv, Int.reduceNeg, Int.reduceLE, Int.reduceLT, Int.reduceToNat, Int.reduceEq, Int.reduceNe, ↓reduceIte]
  refine call_of (requestErr_good s r hs hr) ?_
  set_option maxRecDepth 100000 in simp (maxSteps := 10000000) only [go_sem, Nat.reduceAdd, Nat.reduceSub, Nat.reduceMul, Nat.reduceLT, Nat.reduceLeDiff, Nat.reduceEqDiff, Nat.reduceMod, Nat.reduceDiv, Int.reduceNeg, Int.reduceLE, Int.reduceLT, Int.reduceToNat, Int.reduceEq, Int.reduceNe, ↓reduceIte]
  refine ifI (fun h2 => ?_) fun h2 => ?_
  · set_option maxRecDepth 100000 in simp (maxSteps := 10000000) only [go_sem, Nat.reduceAdd, Nat.reduceSub, Nat.reduceMul, Nat.reduceLT, Nat.reduceLeDiff, Nat.reduceEqDiff, Nat.reduceMod, Nat.reduceDiv, Int.reduceNeg, Int.reduceLE, Int.reduceLT, Int.reduceToNat, Int.reduceEq, Int.reduceNe, ↓reduceIte]
    have hI : AccessP s r = (zeroF, false) := by rw [AccessP, hE, if_pos h2]
    simp [hI, hE, zeroF]
  have h2' : reqE s r = 0 := Classical.not_not.1 h2
  have z := reqE_zero h2'
  have hI : AccessP s r = accP s r := by rw [AccessP, hE, if_neg h2]
  set_option maxRecDepth 100000 in simp (maxSteps := 10000000) only [go_sem, Nat.reduceAdd, Nat.reduceSub, Nat.reduceMul, Nat.reduceLT, Nat.reduceLeDiff, Nat.reduceEqDiff, Nat.reduceMod, Nat.reduceDiv, Int.reduceNeg, Int.reduceLE, Int.reduceLT, Int.reduceToNat, Int.reduceEq, Int.reduceNe, ↓reduceIte]
  refine call_of (access_good s r (sound_of hs h1') hr z.1 z.2.1 z.2.2.1) ?_
  set_option maxRecDepth 100000 in simp (maxSteps := 10000000) only [go_sem, Nat.reduceAdd, Nat.reduceSub, Nat.reduceMul, Nat.reduceLT, Nat.reduceLeDiff, Nat.reduceEqDiff, Nat.reduceMod, Nat.reduceDiv, Int.reduceNeg, Int.reduceLE, Int.reduceLT, Int.reduceToNat, Int.reduceEq, Int.reduceNe, ↓reduceIte]
  simp [hI, hE, h2']
end Go.Proofs.Ytdmcmfdmnlckdaa.C10
