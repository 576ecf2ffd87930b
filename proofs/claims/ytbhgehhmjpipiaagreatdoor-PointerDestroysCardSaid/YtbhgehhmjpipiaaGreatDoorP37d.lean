/- Chapter 12: the plain laws of what is never forged, and of bytes that only destroy. -/
import Derived.Test.YtbhgehhmjpipiaaGreatDoorP37f
set_option linter.unusedSimpArgs false
set_option linter.unusedVariables false
namespace Go.Proofs.YtbhgehhmjpipiaaGreatDoor.C12
open Go Go.Proofs
variable {C : CC}
inductive NewJ (C : CC) (s : St) (o : COp) (p : Ptr) : Prop
 | resolve (hk : o.kind = 0) (ho : 0 ≤ o.object ∧ o.object < (C.O : Int)) (ha : C.au o.job.toNat o.object.toNat ≠ 0) (hp : p = ⟨1, o.object + 1, 0, C.au o.job.toNat o.object.toNat⟩)
 | copy (hk : o.kind = 2) (i : Nat) (hv : s.jv o.job.toNat i = some p)
 | narrow (hk : o.kind = 4) (i : Nat) (q : Ptr) (hv : s.jv o.job.toNat i = some q) (ha : 0 ≤ o.auth ∧ o.auth ≤ 1023) (hp : p = ⟨q.kind, q.seg, q.off, andI q.auth o.auth⟩)
 | address (hk : o.kind = 5) (i : Nat) (q : Ptr) (hv : s.jv o.job.toNat i = some q) (h1 : q.kind = 1) (h2 : C.sp (q.seg - 1) = true) (h3 : C.inc q.auth 128 = true) (hp : p = ⟨0, q.seg, q.off, 0⟩)
 | load (hk : o.kind = 7) (i : Nat) (q : Ptr) (hv : s.jv o.job.toNat i = some q) (h1 : q.kind = 1) (h2 : C.sp (q.seg - 1) = true) (h3 : C.inc q.auth 32 = true) (m : Nat) (hp : s.sv (q.seg - 1).toNat m = some p)
inductive NewS (C : CC) (s : St) (o : COp) (b : Nat) (p : Ptr) : Prop
 | store (hk : o.kind = 6) (i : Nat) (q : Ptr) (hv : s.jv o.job.toNat i = some q) (h1 : q.kind = 1) (h2 : C.sp (q.seg - 1) = true) (h3 : C.inc q.auth 128 = true) (hb : b = (q.seg - 1).toNat) (m : Nat) (hp : s.jv o.job.toNat m = some p)
inductive StepR (C : CC) (s : St) (o : COp) : St → Prop
 | job (x : Stg) (h : ∀ k p, x.view k = some p → s.jv o.job.toNat k = some p ∨ NewJ C s o p) : StepR C s o (setJ s o x)
 | space (b : Nat) (hb : b < C.O) (x : Stg) (h : ∀ k p, x.view k = some p → s.sv b k = some p ∨ NewS C s o b p) : StepR C s o (setP s b x)
theorem viewQ_some {n k : Nat} {s : Stg} {q : ByteArray} {t : Bool} (h : s.Ok n) (hk : k < n) (hq : q.size = 16) {j : Nat} {p : Ptr} (hv : (setQ s k q t).view j = some p) : s.view j = some p ∨ (t = true ∧ (ptrIn q).1 = p) := by
 rw [setQ_view h hk hq] at hv
 split at hv
 · split at hv
   · rename_i e; cases hv; exact .inr ⟨e, rfl⟩
   · cases hv
 · exact .inl hv
theorem viewW_some {a : Nat} {s : Stg} {d : ByteArray} (h : a + d.size ≤ s.bytes.size) {j : Nat} {p : Ptr} (hv : (wrS s a d).view j = some p) : s.view j = some p := by
 rw [wrS_view h] at hv
 split at hv
 · cases hv
 · exact hv
theorem tag_view {s : Stg} {k : Nat} (h : s.tag k = true) : s.view k = some (ptrIn (quadB s.bytes k)).1 := by unfold Stg.view; rw [if_pos h]
theorem byP_cases (hA : C.Aut) {s : St} (h : StV C s) {o : COp} (hf : FOk C o) (hk : 4 ≤ o.kind) {p : Ptr} (hv : (s.own o).view (atI o).toNat = some p) (hs : o.kind = 4 ∨ C.sp (p.seg - 1) = true) (h1 : p.kind = kdI o) (hi : C.inc p.auth (needI o) = true) : StepR C s o (byP s o p) := by
 have hj := hf.job
 have hown : StgV C 60 (s.own o) := h.job o.job.toNat (by omega)
 have hp := hown.ptr _ _ hv
 obtain ⟨_, _, _, hpe⟩ := hown.ok.view hv
 obtain ⟨e1, e2, e3, e4, e5⟩ := ptrE_ok.1 hpe
 have hq : ∀ o', C.sp o' = true → quadsC C o'.toNat = 60 := fun o' q => by
  have := hA.fit.sp o' q
  unfold quadsC
  rw [show ((o'.toNat : Nat) : Int) = o' by omega, if_pos q]
 have hsp : ∀ o', C.sp o' = true → StgV C 60 (s.sp o'.toNat) := fun o' q => by
  have := h.sp o'.toNat (by have := hA.fit.sp o' q; omega)
  rw [hq o' q] at this; exact this
 have := hf.kind
 unfold byP
 split
 · rename_i k4
   have h0 := andI_rng e4 (hf.auth k4)
   have hkd : p.kind = 1 := by rw [h1, kdI, if_neg (by omega)]
   have hpp : ptrE ⟨p.kind, p.seg, p.off, andI p.auth o.auth⟩ = 0 := ptrE_ok.2 ⟨e1, e2, e3, h0, .inl hkd⟩
   have hsrc := hf.src (by omega) (by omega)
   refine .job _ fun k q hq => ?_
   rcases viewQ_some hown.ok (by omega) (ptrB_size _) hq with r | ⟨_, r⟩
   · exact .inl r
   · rw [ptrIn_ptrB hpp] at r
     exact .inr (.narrow k4 (atI o).toNat p hv (hf.auth k4) r.symm)
 rename_i k4
 have hs' : C.sp (p.seg - 1) = true := hs.resolve_left k4
 have hsp' := hsp _ hs'
 have hb : (p.seg - 1).toNat < C.O := by have := hA.fit.sp _ hs'; omega
 split
 · rename_i k5
   have hdst := hf.dst (by omega) (by omega) (by omega)
   have hkd : p.kind = 1 := by rw [h1, kdI, if_neg (by omega)]
   have hn : needI o = 128 := by unfold needI; rw [if_neg (by omega), if_neg (by omega)]
   have hpp : ptrE ⟨0, p.seg, p.off, 0⟩ = 0 := ptrE_ok.2 ⟨by simp, e2, e3, by simp, by simp⟩
   refine .job _ fun k q hq => ?_
   rcases viewQ_some hown.ok (by omega) (ptrB_size _) hq with r | ⟨_, r⟩
   · exact .inl r
   · rw [ptrIn_ptrB hpp] at r
     rw [hn] at hi
     exact .inr (.address k5 (atI o).toNat p hv hkd hs' hi r.symm)
 rename_i k5
 split
 · rename_i k6
   have hdst := hf.dst (by omega) (by omega) (by omega)
   have hsrc := hf.src (by omega) (by omega)
   have hkd : p.kind = 1 := by rw [h1, kdI, if_neg (by omega)]
   have hn : needI o = 128 := by unfold needI; rw [if_neg (by omega), if_neg (by omega)]
   refine .space _ hb _ fun k q hq' => ?_
   rcases viewQ_some hsp'.ok (by omega) (quadB_size (by rw [hown.ok.size]; omega)) hq' with r | ⟨ht, r⟩
   · exact .inl r
   · rw [hn] at hi
     exact .inr (.store k6 (atI o).toNat p hv hkd hs' hi rfl o.src.toNat (by rw [← r]; exact tag_view ht))
 rename_i k6
 split
 · rename_i k7
   have hdst := hf.dst (by omega) (by omega) (by omega)
   have hsrc := hf.src (by omega) (by omega)
   have hkd : p.kind = 1 := by rw [h1, kdI, if_neg (by omega)]
   have hn : needI o = 32 := by unfold needI; rw [if_neg (by omega), if_pos k7]
   refine .job _ fun k q hq' => ?_
   rcases viewQ_some hown.ok (by omega) (quadB_size (by rw [hsp'.ok.size]; omega)) hq' with r | ⟨ht, r⟩
   · exact .inl r
   · rw [hn] at hi
     exact .inr (.load k7 (atI o).toNat p hv hkd hs' hi o.src.toNat (by rw [← r]; exact tag_view ht))
 · rename_i k7
   have hd := hf.data (by omega)
   exact .space _ hb _ fun k q hq' => .inl (viewW_some (s := s.sp (p.seg - 1).toNat) (by rw [hsp'.ok.size]; omega) hq')
theorem step_cases (hA : C.Aut) {s : St} (h : StV C s) {o : COp} (he : (stepS C s o).2 = 0) : (0 ≤ o.job ∧ o.job < (C.J : Int)) ∧ StepR C s o (stepS C s o).1 := by
 unfold stepS at he ⊢
 split at he
 · cases he
 rename_i q1
 rw [if_neg q1]
 split at he
 · cases he
 rename_i q2
 rw [if_neg q2]
 split at he
 · cases he
 rename_i q3
 rw [if_neg q3]
 have hf : FOk C o := fok_of (Classical.not_not.1 q1) (Classical.not_not.1 q2) (by simpa using q3)
 have hj := hf.job
 refine ⟨hj, ?_⟩
 have hown : StgV C 60 (s.own o) := h.job o.job.toNat (by omega)
 split at he
 · rename_i k0
   rw [if_pos k0]
   split at he
   · cases he
   rename_i q4
   rw [if_neg q4]
   have ho := hf.object k0
   have hdst := hf.dst (by omega) (by omega) (by omega)
   have ha := hA.au o.job.toNat o.object.toNat (by omega) (by omega)
   have hO := hA.fit.O
   have hpp : ptrE ⟨1, o.object + 1, 0, C.au o.job.toNat o.object.toNat⟩ = 0 := ptrE_ok.2 ⟨by simp, by simp only; omega, by simp, ha, .inl rfl⟩
   refine .job _ fun k q hq => ?_
   rcases viewQ_some hown.ok (by omega) (ptrB_size _) hq with r | ⟨_, r⟩
   · exact .inl r
   · rw [ptrIn_ptrB hpp] at r
     exact .inr (.resolve k0 ho q4 r.symm)
 rename_i k0
 rw [if_neg k0]
 split at he
 · rename_i k1
   rw [if_pos k1]
   have hd := hf.data (.inl k1)
   exact .job _ fun k q hq => .inl (viewW_some (s := s.own o) (by rw [hown.ok.size]; omega) hq)
 rename_i k1
 rw [if_neg k1]
 split at he
 · rename_i k2
   rw [if_pos k2]
   have hdst := hf.dst (by omega) (by omega) (by omega)
   have hsrc := hf.src (by omega) (by omega)
   refine .job _ fun k q hq => ?_
   rcases viewQ_some hown.ok (by omega) (quadB_size (by rw [hown.ok.size]; omega)) hq with r | ⟨ht, r⟩
   · exact .inl r
   · exact .inr (.copy k2 o.src.toNat (by rw [← r]; exact tag_view ht))
 rename_i k2
 rw [if_neg k2]
 split at he
 · rename_i k3
   rw [if_pos k3]
   have hdst := hf.dst (by omega) (by omega) (by omega)
   have hsrc := hf.src (by omega) (by omega)
   refine .job _ fun k q hq => ?_
   rcases viewQ_some hown.ok (by omega) (quadB_size (by rw [hown.ok.size]; omega)) hq with r | ⟨ht, r⟩
   · exact .inl r
   · cases ht
 rename_i k3
 rw [if_neg k3]
 have hk : 4 ≤ o.kind := by have := hf.kind; omega
 unfold byPS at he ⊢
 cases hv : (s.own o).view (atI o).toNat with
 | none => rw [hv] at he; cases he
 | some p =>
   rw [hv] at he
   simp only at he ⊢
   split at he
   · cases he
   rename_i q4
   rw [if_neg q4]
   split at he
   · cases he
   rename_i q5
   rw [if_neg q5]
   refine byP_cases hA h hf hk hv ?_ ?_ (by simpa using q5)
   · by_cases r : o.kind = 4
     · exact .inl r
     · right
       cases hs : C.sp (p.seg - 1) with
       | true => rfl
       | false => exact absurd (.inr ⟨r, hs⟩) q4
   · exact Classical.byContradiction fun r => q4 (.inl r)
structure CC.IncL (C : CC) : Prop where
 refl : ∀ a, 0 ≤ a → a ≤ 1023 → C.inc a a = true
 trans : ∀ a b n, (0 ≤ a ∧ a ≤ 1023) → (0 ≤ b ∧ b ≤ 1023) → (0 ≤ n ∧ n ≤ 1023) → C.inc a b = true → C.inc b n = true → C.inc a n = true
 band : ∀ a b n, (0 ≤ a ∧ a ≤ 1023) → (0 ≤ b ∧ b ≤ 1023) → (0 ≤ n ∧ n ≤ 1023) → C.inc a b = true → C.inc a (andI b n) = true
def Cov (C : CC) (j : Nat) (p : Ptr) : Prop := ∃ x, Drv C x ∧ x.job = (j : Int) ∧ x.object = p.seg - 1 ∧ x.kind = p.kind ∧ C.inc x.auth p.auth = true
def CovS (C : CC) (o : Nat) (p : Ptr) : Prop := ∃ x w, Drv C x ∧ Drv C w ∧ w.job = x.job ∧ w.object = (o : Int) ∧ C.chan w 128 = true ∧ x.object = p.seg - 1 ∧ x.kind = p.kind ∧ C.inc x.auth p.auth = true
structure UInv (C : CC) (s : St) : Prop where
 ok : StV C s
 job : ∀ j, j < C.J → ∀ k p, s.jv j k = some p → Cov C j p
 sp : ∀ o, o < C.O → ∀ k p, s.sv o k = some p → CovS C o p
theorem unf_step (hA : C.Aut) (hI : C.IncL) {s : St} (h : UInv C s) {o : COp} (he : (stepS C s o).2 = 0) : UInv C (stepS C s o).1 := by
 have hok := step_ok hA h.ok he
 obtain ⟨hj, hc⟩ := step_cases hA h.ok he
 have hjn : o.job.toNat < C.J := by omega
 have hjj : ((o.job.toNat : Nat) : Int) = o.job := by omega
 have pa : ∀ k p, s.jv o.job.toNat k = some p → 0 ≤ p.auth ∧ p.auth ≤ 1023 := fun k p hv => (ptrE_ok.1 ((h.ok.job _ hjn).ok.view hv).2.2.2).2.2.2.1
 generalize (stepS C s o).1 = t at hok hc
 cases hc with
 | job x hx =>
   refine ⟨hok, fun j hj' k p hv => ?_, fun b hb k p hv => h.sp b hb k p hv⟩
   unfold St.jv at hv
   rw [setJ_job (by rw [h.ok.nj]; omega)] at hv
   split at hv
   · rename_i e
     subst e
     rcases hx k p hv with r | r
     · exact h.job _ hjn k p r
     · cases r with
       | resolve hk ho ha hp =>
         subst hp
         have hs := Drv.seed (C := C) o.job.toNat o.object.toNat hjn (by omega) ha
         have hr := hA.au o.job.toNat o.object.toNat hjn (by omega)
         exact ⟨_, hs, rfl, by simp only; omega, rfl, hI.refl _ hr.1 hr.2⟩
       | copy hk i hv2 => exact h.job _ hjn i p hv2
       | narrow hk i q hv2 ha hp =>
         obtain ⟨x, x1, x2, x3, x4, x5⟩ := h.job _ hjn i q hv2
         subst hp
         exact ⟨x, x1, x2, x3, x4, hI.band _ _ _ (x1.auth hA) (pa i q hv2) ha x5⟩
       | address hk i q hv2 h1 h2 h3 hp =>
         obtain ⟨x, x1, x2, x3, x4, x5⟩ := h.job _ hjn i q hv2
         subst hp
         have hch : C.chan x 128 = true := by
          unfold CC.chan
          rw [x4, h1, x3, h2, hI.trans _ _ _ (x1.auth hA) (pa i q hv2) (by decide) x5 h3]; rfl
         exact ⟨_, Drv.addr x x1 hch, x2, x3, rfl, hI.refl 0 (by decide) (by decide)⟩
       | load hk i q hv2 h1 h2 h3 m hp =>
         obtain ⟨r, r1, r2, r3, r4, r5⟩ := h.job _ hjn i q hv2
         obtain ⟨ob1, ob2⟩ := hA.fit.sp _ h2
         obtain ⟨x, w, x1, w1, w2, w3, w4, x3, x4, x5⟩ := h.sp _ (by omega) m p hp
         have hch : C.chan r 32 = true := by
          unfold CC.chan
          rw [r4, h1, r3, h2, hI.trans _ _ _ (r1.auth hA) (pa i q hv2) (by decide) r5 h3]; rfl
         by_cases hxj : x.job = (o.job.toNat : Int)
         · exact ⟨x, x1, hxj, x3, x4, x5⟩
         · exact ⟨_, Drv.pass x w r o.job.toNat hjn x1 w1 r1 w2 r2 (fun e => hxj e.symm) (by rw [w3, r3]; omega) w4 hch, rfl, x3, x4, x5⟩
   · exact h.job j hj' k p hv
 | space b hb x hx =>
   refine ⟨hok, fun j hj' k p hv => h.job j hj' k p hv, fun b' hb' k p hv => ?_⟩
   unfold St.sv at hv
   rw [setP_sp (by rw [h.ok.ns]; omega)] at hv
   split at hv
   · rename_i e
     subst e
     rcases hx k p hv with r | r
     · exact h.sp _ hb k p r
     · cases r with
       | store hk i q hv2 h1 h2 h3 hbq m hp =>
         obtain ⟨w, w1, w2, w3, w4, w5⟩ := h.job _ hjn i q hv2
         obtain ⟨x, x1, x2, x3, x4, x5⟩ := h.job _ hjn m p hp
         obtain ⟨ob1, ob2⟩ := hA.fit.sp _ h2
         have hch : C.chan w 128 = true := by
          unfold CC.chan
          rw [w4, h1, w3, h2, hI.trans _ _ _ (w1.auth hA) (pa i q hv2) (by decide) w5 h3]; rfl
         exact ⟨x, w, x1, w1, w2.trans x2.symm, by rw [w3, hbq]; omega, hch, x3, x4, x5⟩
   · exact h.sp b' hb' k p hv
theorem unf_next (hA : C.Aut) (hI : C.IncL) {s : St} (h : UInv C s) (o : COp) : UInv C (nextS C s o) := by
 unfold nextS; split
 · rename_i q; exact unf_step hA hI h q
 · exact h
theorem unf_run (hA : C.Aut) (hI : C.IncL) : ∀ {l : List COp} {s : St}, UInv C s → UInv C (runGo C s l)
 | [], s, h => h
 | o :: l, s, h => unf_run (l := l) hA hI (unf_next hA hI h o)
theorem unf_start (C : CC) : UInv C (startS C) := by
 refine ⟨start_ok C, fun j hj k p hv => ?_, fun b hb k p hv => ?_⟩
 · unfold St.jv at hv
   have : (startS C).jobs.getD j default = zStg 60 := by simp [startS, List.getD_eq_getElem?_getD, List.getElem?_replicate, hj]
   rw [this, zStg_view] at hv; cases hv
 · unfold St.sv at hv
   have : (startS C).spaces.getD b default = zStg (quadsC C b) := by simp [startS, List.getD_eq_getElem?_getD, hb]
   rw [this, zStg_view] at hv; cases hv
theorem unf_holds (hA : C.Aut) (hI : C.IncL) (l : List COp) {x : Cap} (h : Holds (runGo C (startS C) l) C.J x) : ∃ y, Drv C y ∧ y.job = x.job ∧ y.object = x.object ∧ y.kind = x.kind ∧ C.inc y.auth x.auth = true := by
 obtain ⟨j, k, p, hj, hv, rfl⟩ := h
 obtain ⟨y, y1, y2, y3, y4, y5⟩ := (unf_run hA hI (unf_start C) (l := l)).job j hj k p hv
 exact ⟨y, y1, y2, y3, y4, y5⟩
theorem destroys (hA : C.Aut) {s : St} (h : StV C s) {o : COp} (he : (stepS C s o).2 = 0) (hk : o.kind = 1 ∨ o.kind = 3 ∨ o.kind = 8) {x : Cap} (hx : Holds (stepS C s o).1 C.J x) : Holds s C.J x := by
 obtain ⟨hj, hc⟩ := step_cases hA h he
 generalize (stepS C s o).1 = t at hx hc
 obtain ⟨j, k, p, hjj, hv, e⟩ := hx
 cases hc with
 | job y hy =>
   unfold St.jv at hv
   rw [setJ_job (by rw [h.nj]; omega)] at hv
   split at hv
   · rename_i e2
     subst e2
     rcases hy k p hv with r | r
     · exact ⟨_, k, p, hjj, r, e⟩
     · cases r <;> omega
   · exact ⟨j, k, p, hjj, hv, e⟩
 | space b hb y hy => exact ⟨j, k, p, hjj, hv, e⟩
end Go.Proofs.YtbhgehhmjpipiaaGreatDoor.C12
