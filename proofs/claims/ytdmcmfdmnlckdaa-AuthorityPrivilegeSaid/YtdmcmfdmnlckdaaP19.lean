/- Chapter 10: what the law of privilege needs. -/
import Derived.Test.YtdmcmfdmnlckdaaF40
namespace Go.Proofs.Ytdmcmfdmnlckdaa.C10
open Go Go.Proofs Go.Proofs.Ytdmcmfdmnlckdaa.Ab
set_option linter.unusedSimpArgs false
set_option linter.unusedSectionVars false
set_option linter.unusedVariables false

theorem addG_user {l : List Grant} {u : ByteArray} {a : Int} {g : Grant} (h : g ∈ addG l u a) : g.user = u ∨ ∃ g' ∈ l, g.user = g'.user := by
  rw [addG] at h
  split at h
  · rename_i hk
    rcases List.mem_or_eq_of_mem_set h with q | rfl
    · exact .inr ⟨g, q, rfl⟩
    · exact .inr ⟨_, nth_mem (grant_hit hk).2, rfl⟩
  · rw [insG] at h
    rcases List.mem_append.1 h with q | q
    · exact .inr ⟨g, List.mem_of_mem_take q, rfl⟩
    · rcases List.mem_cons.1 q with rfl | q
      · exact .inl rfl
      · exact .inr ⟨g, List.mem_of_mem_drop q, rfl⟩
theorem few_add {s : Sec} {k : Nat} {u : ByteArray} {a : Int} (hk : k < s.objects.length) (hl : (nth s.objects k).grants.length ≤ 8) (hu : small u = true) (h : fewB s = true) : fewB (addS s k u a) = true := by
  rw [fewB, Bool.and_eq_true, Bool.and_eq_true, Bool.and_eq_true] at h ⊢
  refine ⟨?_, h.2.1, h.2.2.1, ?_⟩
  · have e : (addS s k u a).objects.length = s.objects.length := add_len
    rw [e]; exact h.1
  · have ho := h.2.2.2
    rw [List.all_eq_true] at ho ⊢
    intro o hm
    rcases add_mem hk hm with q | rfl
    · exact ho o q
    · have := ho _ (nth_mem hk)
      rw [fewO, Bool.and_eq_true] at this
      rw [fewO, Bool.and_eq_true]
      refine ⟨this.1, ?_⟩
      have hg := this.2
      rw [fewGrantsB, Bool.and_eq_true, List.all_eq_true] at hg
      rw [fewGrantsB, Bool.and_eq_true, List.all_eq_true]
      refine ⟨decide_eq_true ?_, fun g hm => ?_⟩
      · have := addG_len (nth s.objects k).grants u a
        show (addG _ u a).length ≤ 12
        omega
      · rcases addG_user hm with e | ⟨g', q, e⟩
        · rw [e]; exact hu
        · rw [e]; exact hg.2 g' q

section
variable {s : Sec} {r : Req} (hs : Fit s) (h0 : accErr s r = 0)
include hs h0
theorem acc_facts : (secE s).2 = 0 ∧ reqE s r = 0 ∧ Sound s := by
  have h2 : (secE s).2 = 0 := by
    rw [accErr] at h0; split at h0
    · rename_i h; exact absurd h0 h
    · rename_i h; exact Classical.not_not.1 h
  have h3 : reqE s r = 0 := by rw [accErr, if_neg (not_not_intro h2)] at h0; exact h0
  exact ⟨h2, h3, sound_of hs h2⟩
theorem access_is : AccessP s r = accP s r := by rw [AccessP, if_neg (not_not_intro h0)]
theorem least_iff : (accP s r).2 = decide (LeastP s r = 0) := by
  have ⟨h2, h3, hS⟩ := acc_facts hs h0
  rw [LeastP, if_neg (not_not_intro h0)]
  cases h : (accP s r).2 with
  | true => rfl
  | false =>
    rw [if_neg (by decide)]
    exact (decide_eq_false (least_ne hS (reqE_zero h3) h)).symm
theorem least_inB : inB (LeastP s r) 0 1023 = true := by
  have ⟨h2, h3, hS⟩ := acc_facts hs h0
  rw [LeastP, if_neg (not_not_intro h0)]
  split
  · rfl
  · exact rng_inB (least_rng (reqE_zero h3).2.2.2.1 10 (Nat.le_refl _))
/-- What stands after the least authority was granted. -/
theorem least_given (hl : ¬ LeastP s r = 0) (hf : ¬ fullG s ⟨r.user, r.object, LeastP s r⟩) :
    Like s (addS s r.object.toNat r.user (LeastP s r)) ∧ Fit (addS s r.object.toNat r.user (LeastP s r)) ∧ (secE (addS s r.object.toNat r.user (LeastP s r))).2 = 0 ∧
    accErr (addS s r.object.toNat r.user (LeastP s r)) r = 0 ∧ (accP (addS s r.object.toNat r.user (LeastP s r)) r).2 = true := by
  have ⟨h2, h3, hS⟩ := acc_facts hs h0
  have z := reqE_zero h3
  have i3 := z.2.1.2.2
  have hso := sortedG_of (hS.pgrants _ (nth_mem i3))
  have hL : LeastP s r = leastN s r 10 := by
    rw [LeastP, if_neg (not_not_intro h0)] at hl ⊢
    split at hl
    · exact absurd rfl hl
    · rename_i q; rw [if_neg q]
  have hlike := like_add (s := s) (k := r.object.toNat) (u := r.user) (a := LeastP s r) i3 z.1 (least_inB hs h0) (by
    by_cases q : 0 ≤ grantIx (nth s.objects r.object.toNat).grants r.user
    · exact .inl q
    · have : ¬ (nth s.objects r.object.toNat).grants.length = 8 := fun e => hf ⟨q, e⟩
      exact .inr (by omega))
  refine ⟨hlike, fit_add hs i3 (Nat.le_trans hso.2 (by decide)), hlike.secE h2, like_acc hlike r h0, ?_⟩
  rw [hL]; exact least_acc hS z 10 (Nat.le_refl _)
theorem least_less (hl : ¬ LeastP s r = 0) (hf : ¬ fullG s ⟨r.user, r.object, LeastP s r⟩) {x : Sec} (hx : x = addS s r.object.toNat r.user (LeastP s r)) {j : Nat} (hj : grantIx (nth x.objects r.object.toNat).grants r.user = (j : Int)) {k : Nat} (hk : k < 10) (hb : ¬ Go.bits .and .i64 (LeastP s r) (bitI k) = 0) :
    Fit (lowS x r.object.toNat j (Go.bits .andNot .i64 (nth (nth x.objects r.object.toNat).grants j).auth (bitI k))) ∧
    accErr (lowS x r.object.toNat j (Go.bits .andNot .i64 (nth (nth x.objects r.object.toNat).grants j).auth (bitI k))) r = 0 ∧
    (accP (lowS x r.object.toNat j (Go.bits .andNot .i64 (nth (nth x.objects r.object.toNat).grants j).auth (bitI k))) r).2 = false := by
  have ⟨h2, h3, hS⟩ := acc_facts hs h0
  have z := reqE_zero h3
  have i3 := z.2.1.2.2
  have hL : LeastP s r = leastN s r 10 := by
    rw [LeastP, if_neg (not_not_intro h0)] at hl ⊢
    split at hl
    · exact absurd rfl hl
    · rename_i q; rw [if_neg q]
  have hgv := least_given hs h0 hl hf
  rw [← hx] at hgv
  obtain ⟨l1, f1, e1, a1, p1⟩ := hgv
  have r10 := least_rng (s := s) (r := r) z.2.2.2.1 10 (Nat.le_refl _)
  have he := ent_add (s := s) (k := r.object.toNat) (u := r.user) (a := LeastP s r) i3
  rw [← hx] at he
  have hp := priv_some he.mine
  have hjn : (grantIx (nth x.objects r.object.toNat).grants r.user).toNat = j := by rw [hj]; rfl
  have hau : (nth (nth x.objects r.object.toNat).grants j).auth = entA (nth s.objects r.object.toNat).grants r.user (LeastP s r) := by
    rw [← hp.2, authOf, hjn]
  have hr := entA_rng hS z r10
  rw [← hL] at hr
  have hxl : r.object.toNat < x.objects.length := by rw [l1.ol]; exact i3
  have hjl : j < (nth x.objects r.object.toNat).grants.length := by rw [← hjn]; exact (grant_hit hp.1).2
  have hlow := like_low (s := x) (k := r.object.toNat) (i := j) (x := Go.bits .andNot .i64 (entA (nth s.objects r.object.toNat).grants r.user (LeastP s r)) (bitI k)) hxl hjl (rng_inB (andNot_rng hr hk))
  have hent := ent_low (x := Go.bits .andNot .i64 (entA (nth s.objects r.object.toNat).grants r.user (LeastP s r)) (bitI k)) he i3
  rw [hjn] at hent
  rw [hau]
  have ft : Fit (lowS x r.object.toNat j (Go.bits .andNot .i64 (entA (nth s.objects r.object.toNat).grants r.user (LeastP s r)) (bitI k))) := by
    refine hlow.fit f1 fun o ho => ?_
    rcases List.mem_or_eq_of_mem_set ho with q | rfl
    · exact f1.ogrants o q
    · show (List.set _ _ _).length ≤ _
      rw [List.length_set]; exact f1.ogrants _ (nth_mem hxl)
  have st := hlow.secE e1
  refine ⟨ft, like_acc hlow r a1, ?_⟩
  rw [hL] at hent hb ft st ⊢
  exact least_min hS z hk (and_bit r10 hk hb) (sound_of ft st).weak hent
end
end Go.Proofs.Ytdmcmfdmnlckdaa.C10
