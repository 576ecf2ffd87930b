/- Chapter 10: the plain law of more private authority: order, soundness, bits. -/
import Derived.Test.YtdmcmfdmnlckdaaF36
namespace Go.Proofs.Ytdmcmfdmnlckdaa.C10
open Go Go.Proofs Go.Proofs.Ytdmcmfdmnlckdaa.Ab
set_option linter.unusedSimpArgs false
set_option linter.unusedVariables false

theorem sortedG_of {s : Sec} {l : List Grant} (h : grantsE s l = 0) : SortedG l ∧ l.length ≤ 8 := by
  rw [grantsE] at h
  split at h
  · cases h
  rename_i h8
  have hz : ∀ j, j < l.length → grantE s l j = 0 := fun j hj => scan_zero _ _ h j (Nat.zero_le _) (by omega)
  have hs : ∀ j, 0 < j → j < l.length → sLt (nth l (j - 1)).user (nth l j).user = true := fun j h0 hj => (grantE_ok.1 (hz j hj)).2.1 h0
  refine ⟨?_, by omega⟩
  unfold SortedG
  rw [List.pairwise_iff_getElem]
  intro i j hi hj hij
  have key : ∀ j, i < j → j < l.length → sLt (nth l i).user (nth l j).user = true := by
    intro j
    induction j with
    | zero => intro h; omega
    | succ j ih =>
      intro h1 h2
      have := hs (j + 1) (by omega) h2
      rw [Nat.add_sub_cancel] at this
      by_cases q : i = j
      · rw [q]; exact this
      · exact sLt_trans (ih (by omega) (by omega)) this
  have := key j hij hj
  rwa [nth_eq hi, nth_eq hj] at this

theorem addG_mem {l : List Grant} {u : ByteArray} {a : Int} {g : Grant} (h : g ∈ addG l u a) : g ∈ l ∨ g.auth = a ∨ ∃ g' ∈ l, g.auth = Go.bits .or .i64 g'.auth a := by
  rw [addG] at h
  split at h
  · rename_i hk
    rcases List.mem_or_eq_of_mem_set h with q | rfl
    · exact .inl q
    · exact .inr (.inr ⟨_, nth_mem (grant_hit hk).2, rfl⟩)
  · rw [insG] at h
    rcases List.mem_append.1 h with q | q
    · exact .inl (List.mem_of_mem_take q)
    · rcases List.mem_cons.1 q with rfl | q
      · exact .inr (.inl rfl)
      · exact .inl (List.mem_of_mem_drop q)
theorem addG_len (l : List Grant) (u : ByteArray) (a : Int) : (addG l u a).length ≤ l.length + 1 := by
  rw [addG]; split
  · rw [List.length_set]; omega
  · rw [insG_len (posG_le _ _)]; exact Nat.le_refl _
theorem rng_inB {x : Int} (h : rng x) : inB x 0 1023 = true := by
  obtain ⟨h1, h2⟩ := h
  simp [inB]; omega
section
variable {s : Sec} {k : Nat} {u : ByteArray} {a : Int}
theorem add_ix (n : ByteArray) : profIx (addS s k u a) n = profIx s n := rfl
theorem add_len : (addS s k u a).objects.length = s.objects.length := List.length_set
theorem add_mem (hk : k < s.objects.length) {o : Secured} (h : o ∈ (addS s k u a).objects) : o ∈ s.objects ∨ o = addO (nth s.objects k) u a := List.mem_or_eq_of_mem_set h
theorem fit_add (hs : Fit s) (hk : k < s.objects.length) (hl : (nth s.objects k).grants.length ≤ 1000) : Fit (addS s k u a) := by
  refine ⟨hs.profiles, hs.lists, by rw [add_len]; exact hs.objects, hs.groups, hs.lgrants, fun o ho => ?_⟩
  rcases add_mem hk ho with q | rfl
  · exact hs.ogrants o q
  · have := addG_len (nth s.objects k).grants u a
    show (addG _ u a).length ≤ _
    omega
theorem sound1_add (hS : Sound s) (hk : k < s.objects.length) (ha : inB a 0 1023 = true) : Sound1 (addS s k u a) := by
  have hw := hS.weak
  have hm := nth_mem hk
  have hl := (sortedG_of (hS.pgrants _ hm)).2
  have hf : Fit (addS s k u a) := fit_add hS.fit hk (by omega)
  refine ⟨hf, hw.grouped, hw.named, fun o ho => ?_, fun o ho => ?_, fun o ho => ?_, hw.lrng, hw.pubL, fun o ho => ?_⟩
  · rcases add_mem hk ho with q | rfl
    · exact hw.listed o q
    · exact ⟨hf.ogrants _ ho, (hw.listed _ hm).2⟩
  · rcases add_mem hk ho with q | rfl
    · exact hw.byList o q
    · have := hw.byList _ hm
      exact this
  · rcases add_mem hk ho with q | rfl
    · exact hw.prng o q
    · intro g hg
      rcases addG_mem hg with q | q | ⟨g', q, e⟩
      · exact hw.prng _ hm g q
      · rw [q]; exact ha
      · rw [e]; exact rng_inB (or_rng (inB_rng (hw.prng _ hm g' q)) (inB_rng ha))
  · rcases add_mem hk ho with q | rfl
    · exact hw.pubO o q
    · have := hw.pubO _ hm
      exact this
end

/-- The bits of authorities. -/
def bitI (k : Nat) : Int := ((2 ^ k : Nat) : Int)
theorem bit_nat : ∀ x : Nat, x < 1024 → ∀ k, k < 10 →
    (Go.bits .and .i64 (x : Int) (bitI k) = 0 ∧ Go.bits .andNot .i64 (x : Int) (bitI k) = (x : Int)) ∨
    (¬ Go.bits .and .i64 (x : Int) (bitI k) = 0 ∧ Go.bits .andNot .i64 (x : Int) (bitI k) = (x : Int) - bitI k ∧ 0 ≤ (x : Int) - bitI k) := by decide +kernel
theorem bit_step : ∀ k, k < 10 → bitI k ≤ 1023 ∧ 1 ≤ bitI k ∧ IntKind.wrap .i64 (bitI k * 2 ^ (min 1 64 : Nat)) = bitI (k + 1) ∧ IntKind.wrap .i64 (bitI k * 2) = bitI (k + 1) := by decide +kernel
theorem bit_cases {x : Int} (h : rng x) {k : Nat} (hk : k < 10) : (Go.bits .and .i64 x (bitI k) = 0 ∧ Go.bits .andNot .i64 x (bitI k) = x) ∨
    (¬ Go.bits .and .i64 x (bitI k) = 0 ∧ Go.bits .andNot .i64 x (bitI k) = x - bitI k ∧ 0 ≤ x - bitI k) := by
  obtain ⟨h1, h2⟩ := h
  have := bit_nat x.toNat (by omega) k hk
  rwa [Int.toNat_of_nonneg h1] at this
theorem andNot_rng {x : Int} (h : rng x) {k : Nat} (hk : k < 10) : rng (Go.bits .andNot .i64 x (bitI k)) := by
  have hb := (bit_step k hk).2.1
  rcases bit_cases h hk with q | q
  · rw [q.2]; exact h
  · rw [q.2.1]; exact ⟨q.2.2, by have := h.2; omega⟩
end Go.Proofs.Ytdmcmfdmnlckdaa.C10
/- Chapter 10: the least authority that must be granted. -/
namespace Go.Proofs.Ytdmcmfdmnlckdaa.C10
open Go Go.Proofs Go.Proofs.Ytdmcmfdmnlckdaa.Ab
set_option linter.unusedSimpArgs false
set_option linter.unusedVariables false
attribute [local congr] ite_ctx

/-- What is left of what is needed after k bits were tried. -/
def leastN (s : Sec) (r : Req) : Nat → Int
  | 0 => r.needed
  | k + 1 => if (accP (addS s r.object.toNat r.user (Go.bits .andNot .i64 (leastN s r k) (bitI k))) r).2 = true then Go.bits .andNot .i64 (leastN s r k) (bitI k) else leastN s r k
theorem least_rng {s : Sec} {r : Req} (h : inB r.needed 0 1023 = true) : ∀ k, k ≤ 10 → rng (leastN s r k)
  | 0, _ => inB_rng h
  | k + 1, hk => by
    rw [leastN]; split
    · exact andNot_rng (least_rng h k (by omega)) (by omega)
    · exact least_rng h k (by omega)
def LeastP (s : Sec) (r : Req) : Int := if ¬ accErr s r = 0 then 0 else if (accP s r).2 = true then 0 else leastN s r 10

theorem acc_add {s : Sec} {r : Req} (hS : Sound s) (z : 0 ≤ profIx s r.user ∧ (0 ≤ r.object ∧ r.object < (s.objects.length : Int) ∧ r.object.toNat < s.objects.length) ∧ (∀ a ∈ r.adopters, 0 ≤ profIx s a) ∧ inB r.needed 0 1023 = true ∧ r.adopters.length ≤ 6) {a : Int} (ha : rng a) :
    Ans Try.prog 86 [.agg (encSec s), .agg [.str r.user, .int .i64 r.object, .int .i64 a]] (.agg (encSec (addS s r.object.toNat r.user a))) ∧
    Ans Try.prog 55 [.agg (encSec s), .agg [.str r.user, .int .i64 r.object, .int .i64 a]] (.agg (encSec (addS s r.object.toNat r.user a))) ∧
    Ans Try.prog 75 [.agg (encSec (addS s r.object.toNat r.user a)), .agg (encReq r)] (.tup [.agg (encFound (accP (addS s r.object.toNat r.user a) r).1), .bool (accP (addS s r.object.toNat r.user a) r).2]) ∧
    Ans Try.prog 29 [.agg (encSec (addS s r.object.toNat r.user a)), .agg (encReq r)] (.tup [.agg (encFound (accP (addS s r.object.toNat r.user a) r).1), .bool (accP (addS s r.object.toNat r.user a) r).2]) := by
  obtain ⟨z1, ⟨i1, i2, i3⟩, z3, z4, z5⟩ := z
  have hg := sortedG_of (hS.pgrants _ (nth_mem i3))
  have hS1 := sound1_add (u := r.user) hS i3 (rng_inB ha)
  have hix : 0 ≤ r.object ∧ r.object < ((addS s r.object.toNat r.user a).objects.length : Int) ∧ r.object.toNat < (addS s r.object.toNat r.user a).objects.length := by rw [add_len]; exact ⟨i1, i2, i3⟩
  exact ⟨granted_good s ⟨r.user, r.object, a⟩ hS.fit i1 i2 i3 (Nat.le_trans hg.2 (by decide)) hg.1, Granted_good s ⟨r.user, r.object, a⟩ hS.fit i1 i2 i3 (Nat.le_trans hg.2 (by decide)) hg.1,
    access_good1 _ r hS1 (by omega) z1 hix z3, AccessR_good1 _ r hS1 (by omega) z1 hix z3⟩

set_option maxHeartbeats 8000000 in
theorem LeastGrant_good (s : Sec) (r : Req) (hs : Fit s) (hr : r.adopters.length ≤ 1000000) : Ans Try.prog 48 [.agg (encSec s), .agg (encReq r)] (.tup [.int .i64 (LeastP s r), .int .i64 (accErr s r)]) := by
  have hacc := Access_good s r hs hr
  refine Classical.byCases (fun h1 : accErr s r = 0 => ?_) fun h1 => ?_
  case refine_2 =>
    have hL : LeastP s r = 0 := by rw [LeastP, if_pos h1]
    rw [hL]
    refine good_run [(6, [11, 12, 13, 29, 30, 31, 32, 33, 34, 35, 36, 37, 38, 39, 40, 41, 42, 43, 44, 45, 46, 47, 48, 49, 50], [12, 12, 43])] mixed Try.func48 rfl Try.ntmps48 (rs := [.tmp 4, .tmp 5]) rfl (by decide +kernel) (by kernel_rfl) rfl ?_
    rw [startE_eq 52 _ _ _ rfl rfl]
    set_option maxRecDepth 100000 in simp (maxSteps := 10000000) only [go_sem, Nat.reduceAdd, Nat.reduceSub, Nat.reduceMul, Nat.reduceLT, Nat.reduceLeDiff, Nat.reduceEqDiff, Nat.reduceMod, Nat.reduceDiv, Int.reduceNeg, Int.reduceLE, Int.reduceLT, Int.reduceToNat, Int.reduceEq, Int.reduceNe, ↓reduceIte]
    refine call_of (hacc) ?_
    set_option maxRecDepth 100000 in simp (maxSteps := 10000000) only [go_sem, Nat.reduceAdd, Nat.reduceSub, Nat.reduceMul, Nat.reduceLT, Nat.reduceLeDiff, Nat.reduceEqDiff, Nat.reduceMod, Nat.reduceDiv, Int.reduceNeg, Int.reduceLE, Int.reduceLT, Int.reduceToNat, Int.reduceEq, Int.reduceNe, ↓reduceIte,  h1, not_false_eq_true, decide_true]
  have hI : AccessP s r = accP s r := by rw [AccessP, if_neg (not_not_intro h1)]
  rw [hI, h1] at hacc
  cases hok : (accP s r).2 with
  | true =>
    have hL : LeastP s r = 0 := by rw [LeastP, if_neg (not_not_intro h1), if_pos hok]
    rw [hL, h1]
    rw [hok] at hacc
    refine good_run [(6, [11, 12, 13, 29, 30, 31, 32, 33, 34, 35, 36, 37, 38, 39, 40, 41, 42, 43, 44, 45, 46, 47, 48, 49, 50], [12, 12, 43])] mixed Try.func48 rfl Try.ntmps48 (rs := [.tmp 4, .tmp 5]) rfl (by decide +kernel) (by kernel_rfl) rfl ?_
    rw [startE_eq 52 _ _ _ rfl rfl]
    set_option maxRecDepth 100000 in simp (maxSteps := 10000000) only [go_sem, Nat.reduceAdd, Nat.reduceSub, Nat.reduceMul, Nat.reduceLT, Nat.reduceLeDiff, Nat.reduceEqDiff, Nat.reduceMod, Nat.reduceDiv, Int.reduceNeg, Int.reduceLE, Int.reduceLT, Int.reduceToNat, Int.reduceEq, Int.reduceNe, ↓reduceIte]
    refine call_of (hacc) ?_
    set_option maxRecDepth 100000 in simp (maxSteps := 10000000) only [go_sem, Nat.reduceAdd, Nat.reduceSub, Nat.reduceMul, Nat.reduceLT, Nat.reduceLeDiff, Nat.reduceEqDiff, Nat.reduceMod, Nat.reduceDiv, Int.reduceNeg, Int.reduceLE, Int.reduceLT, Int.reduceToNat, Int.reduceEq, Int.reduceNe, ↓reduceIte,  not_true_eq_false, decide_false]
  | false =>
  have hL : LeastP s r = leastN s r 10 := by rw [LeastP, if_neg (not_not_intro h1), if_neg (by rw [hok]; decide)]
  rw [hL, h1]
  rw [hok] at hacc
  have h2 : (secE s).2 = 0 := by
    rw [accErr] at h1; split at h1
    · rename_i h; exact absurd h1 h
    · rename_i h; exact Classical.not_not.1 h
  have h3 : reqE s r = 0 := by rw [accErr, if_neg (not_not_intro h2)] at h1; exact h1
  have z := reqE_zero h3
  have hS := sound_of hs h2
  refine good_run [(6, [11, 12, 13, 29, 30, 31, 32, 33, 34, 35, 36, 37, 38, 39, 40, 41, 42, 43, 44, 45, 46, 47, 48, 49, 50], [12, 12, 43])] mixed Try.func48 rfl Try.ntmps48 (rs := [.tmp 4, .tmp 5]) rfl (by decide +kernel) (by kernel_rfl) rfl ?_
  rw [startE_eq 52 _ _ _ rfl rfl]
  set_option maxRecDepth 100000 in simp (maxSteps := 10000000) only [go_sem, Nat.reduceAdd, Nat.reduceSub, Nat.reduceMul, Nat.reduceLT, Nat.reduceLeDiff, Nat.reduceEqDiff, Nat.reduceMod, Nat.reduceDiv, Int.reduceNeg, Int.reduceLE, Int.reduceLT, Int.reduceToNat, Int.reduceEq, Int.reduceNe, ↓reduceIte]
  refine call_of (hacc) ?_
  set_option maxRecDepth 100000 in simp (maxSteps := 10000000) only [go_sem, Nat.reduceAdd, Nat.reduceSub, Nat.reduceMul, Nat.reduceLT, Nat.reduceLeDiff, Nat.reduceEqDiff, Nat.reduceMod, Nat.reduceDiv, Int.reduceNeg, Int.reduceLE, Int.reduceLT, Int.reduceToNat, Int.reduceEq, Int.reduceNe, ↓reduceIte,  not_true_eq_false, decide_false]
  refine loop_by ([11, 12, 13, 29, 30, 31, 32, 33, 34, 35, 36, 37, 38, 39, 40, 41, 42, 43, 44, 45, 46, 47, 48, 49, 50], [12, 12, 43]) (fun k : Nat => [(.s 9, .int .i64 (leastN s r k)), (.s 10, .int .i64 (bitI k)), (.o 12, deadV k)]) (fun k => 10 - k) (fun k => k ≤ 10) 0 rfl (Nat.zero_le _) rfl ?_
  rintro c' st' hst k hk ih
  set_option maxRecDepth 100000 in simp (maxSteps := 10000000) only [go_sem, Nat.reduceAdd, Nat.reduceSub, Nat.reduceMul, Nat.reduceLT, Nat.reduceLeDiff, Nat.reduceEqDiff, Nat.reduceMod, Nat.reduceDiv, Int.reduceNeg, Int.reduceLE, Int.reduceLT, Int.reduceToNat, Int.reduceEq, Int.reduceNe, ↓reduceIte]
  refine Classical.byCases (fun hlt : k < 10 => ?_) fun hlt => ?_
  case refine_2 =>
    have hk10 : k = 10 := by omega
    have hb : (bitI 10 ≤ 1023) = False := eq_false (by decide)
    subst hst
    set_option maxRecDepth 100000 in simp (maxSteps := 10000000) only [go_sem, Nat.reduceAdd, Nat.reduceSub, Nat.reduceMul, Nat.reduceLT, Nat.reduceLeDiff, Nat.reduceEqDiff, Nat.reduceMod, Nat.reduceDiv, Int.reduceNeg, Int.reduceLE, Int.reduceLT, Int.reduceToNat, Int.reduceEq, Int.reduceNe, ↓reduceIte,  hk10, hb]
  have hb := bit_step k hlt
  have b1 := hb.1
  have b3 := hb.2.2.1
  have ha := acc_add hS z (andNot_rng (least_rng (s := s) (r := r) z.2.2.2.1 k hk) hlt)
  have c1 := ha.1
  have c2 := ha.2.2.1
  set_option maxRecDepth 100000 in simp (maxSteps := 10000000) only [go_sem, Nat.reduceAdd, Nat.reduceSub, Nat.reduceMul, Nat.reduceLT, Nat.reduceLeDiff, Nat.reduceEqDiff, Nat.reduceMod, Nat.reduceDiv, Int.reduceNeg, Int.reduceLE, Int.reduceLT, Int.reduceToNat, Int.reduceEq, Int.reduceNe, ↓reduceIte,  b1]
  refine callD_of (c1) ?_
  set_option maxRecDepth 100000 in simp (maxSteps := 10000000) only [go_sem, Nat.reduceAdd, Nat.reduceSub, Nat.reduceMul, Nat.reduceLT, Nat.reduceLeDiff, Nat.reduceEqDiff, Nat.reduceMod, Nat.reduceDiv, Int.reduceNeg, Int.reduceLE, Int.reduceLT, Int.reduceToNat, Int.reduceEq, Int.reduceNe, ↓reduceIte]
  refine callD_of (c2) ?_
  set_option maxRecDepth 100000 in simp (maxSteps := 10000000) only [go_sem, Nat.reduceAdd, Nat.reduceSub, Nat.reduceMul, Nat.reduceLT, Nat.reduceLeDiff, Nat.reduceEqDiff, Nat.reduceMod, Nat.reduceDiv, Int.reduceNeg, Int.reduceLE, Int.reduceLT, Int.reduceToNat, Int.reduceEq, Int.reduceNe, ↓reduceIte]
  refine ⟨by decide +kernel, ifI (fun h => ?_) fun h => ?_⟩
  · have hn : leastN s r (k + 1) = Go.bits .andNot .i64 (leastN s r k) (bitI k) := by rw [leastN, if_pos h]
    set_option maxRecDepth 100000 in simp (maxSteps := 10000000) only [go_sem, Nat.reduceAdd, Nat.reduceSub, Nat.reduceMul, Nat.reduceLT, Nat.reduceLeDiff, Nat.reduceEqDiff, Nat.reduceMod, Nat.reduceDiv, Int.reduceNeg, Int.reduceLE, Int.reduceLT, Int.reduceToNat, Int.reduceEq, Int.reduceNe, ↓reduceIte,  b3]
    refine ih (k + 1) _ (by omega) (by omega) ?_
    set_option maxRecDepth 100000 in simp (maxSteps := 10000000) only [go_sem, Nat.reduceAdd, Nat.reduceSub, Nat.reduceMul, Nat.reduceLT, Nat.reduceLeDiff, Nat.reduceEqDiff, Nat.reduceMod, Nat.reduceDiv, Int.reduceNeg, Int.reduceLE, Int.reduceLT, Int.reduceToNat, Int.reduceEq, Int.reduceNe, ↓reduceIte,  b3, hn]
  · have hn : leastN s r (k + 1) = leastN s r k := by rw [leastN, if_neg h]
    set_option maxRecDepth 100000 in simp (maxSteps := 10000000) only [go_sem, Nat.reduceAdd, Nat.reduceSub, Nat.reduceMul, Nat.reduceLT, Nat.reduceLeDiff, Nat.reduceEqDiff, Nat.reduceMod, Nat.reduceDiv, Int.reduceNeg, Int.reduceLE, Int.reduceLT, Int.reduceToNat, Int.reduceEq, Int.reduceNe, ↓reduceIte,  b3]
    refine ih (k + 1) _ (by omega) (by omega) ?_
    set_option maxRecDepth 100000 in simp (maxSteps := 10000000) only [go_sem, Nat.reduceAdd, Nat.reduceSub, Nat.reduceMul, Nat.reduceLT, Nat.reduceLeDiff, Nat.reduceEqDiff, Nat.reduceMod, Nat.reduceDiv, Int.reduceNeg, Int.reduceLE, Int.reduceLT, Int.reduceToNat, Int.reduceEq, Int.reduceNe, ↓reduceIte,  b3, hn]
end Go.Proofs.Ytdmcmfdmnlckdaa.C10
