/- Chapter 12: the plain law of witnesses. -/
import Derived.Test.YtbhgehhmjpipiaaGreatDoorP37f
set_option linter.unusedSimpArgs false
set_option linter.unusedVariables false
namespace Go.Proofs.YtbhgehhmjpipiaaGreatDoor.C12
open Go Go.Proofs
variable {C : CC}
def capP (x : Cap) : Ptr := ⟨x.kind, x.object + 1, 0, x.auth⟩
structure WInv (C : CC) (l : List Der) (n : Nat) (s : St) : Prop where
 ok : StV C s
 view : ∀ k, k < n → s.jv (l.getD k default).cap.job.toNat k = some (capP (l.getD k default).cap)
theorem nextS_ok {s t : St} {o : COp} (h : stepS C s o = (t, 0)) : nextS C s o = t := by unfold nextS; rw [h]; rfl
theorem stepR {s : St} {d : Der} {n : Nat} (hn : n < 60) (hj : 0 ≤ d.cap.job ∧ d.cap.job < (C.J : Int)) (ho : 0 ≤ d.cap.object ∧ d.cap.object < (C.O : Int)) (ha : C.au d.cap.job.toNat d.cap.object.toNat ≠ 0) :
 stepS C s (opR d n) = (setJ s (opR d n) (setQ (s.own (opR d n)) n (ptrB ⟨1, d.cap.object + 1, 0, C.au d.cap.job.toNat d.cap.object.toNat⟩) true), 0) := by
 have hb : badF C (opR d n) = false := by
  have h1 : isQ (n : Int) = true := decide_eq_true (by omega)
  simp [badF, opR, h1, ho.1, ho.2]
 unfold stepS
 rw [if_neg (by simp [opR]), if_neg (show ¬ ¬ (0 ≤ (opR d n).job ∧ (opR d n).job < (C.J : Int)) from not_not_intro hj), if_neg (by rw [hb]; decide), if_pos (show (opR d n).kind = 0 from rfl), if_neg (show ¬ C.au (opR d n).job.toNat (opR d n).object.toNat = 0 from ha)]
 simp [opR]
theorem stepA {s : St} {d : Der} {n : Nat} (hn : n < 60) (hj : 0 ≤ d.cap.job ∧ d.cap.job < (C.J : Int)) (hs : 0 ≤ d.source ∧ d.source ≤ 59) {p : Ptr} (hv : s.jv d.cap.job.toNat d.source.toNat = some p) (hk : p.kind = 1) (hsp : C.sp (p.seg - 1) = true) (hi : C.inc p.auth 128 = true) :
 stepS C s (opA d n) = (setJ s (opA d n) (setQ (s.own (opA d n)) n (ptrB ⟨0, p.seg, p.off, 0⟩) true), 0) := by
 have hb : badF C (opA d n) = false := by
  have h1 : isQ (n : Int) = true := decide_eq_true (by omega)
  have h2 : isQ d.source = true := decide_eq_true hs
  simp [badF, opA, h1, h2]
 unfold stepS
 rw [if_neg (by simp [opA]), if_neg (show ¬ ¬ (0 ≤ (opA d n).job ∧ (opA d n).job < (C.J : Int)) from not_not_intro hj), if_neg (by rw [hb]; decide), if_neg (by simp [opA]), if_neg (by simp [opA]), if_neg (by simp [opA]), if_neg (by simp [opA])]
 have hv' : (s.own (opA d n)).view (atI (opA d n)).toNat = some p := hv
 unfold byPS
 rw [hv']
 simp only
 have e1 : kdI (opA d n) = 1 := rfl
 have e2 : needI (opA d n) = 128 := rfl
 rw [e1, e2, if_neg (by rw [hk, hsp]; simp), if_neg (by rw [hi]; decide)]
 unfold byP
 rw [if_neg (by simp [opA]), if_pos (show (opA d n).kind = 5 from rfl)]
 simp [opA]
theorem stepSt {s : St} {d y : Der} {n : Nat} (hn : n < 60) (hj : 0 ≤ y.cap.job ∧ y.cap.job < (C.J : Int)) (hs : 0 ≤ d.source ∧ d.source ≤ 59) (hw : 0 ≤ d.writer ∧ d.writer ≤ 59) {p : Ptr} (hv : s.jv y.cap.job.toNat d.writer.toNat = some p) (hk : p.kind = 1) (hsp : C.sp (p.seg - 1) = true) (hi : C.inc p.auth 128 = true) :
 stepS C s (opS d y n) = (setP s (p.seg - 1).toNat (setQ (s.sp (p.seg - 1).toNat) n (quadB (s.own (opS d y n)).bytes d.source.toNat) ((s.own (opS d y n)).tag d.source.toNat)), 0) := by
 have hb : badF C (opS d y n) = false := by
  have h1 : isQ (n : Int) = true := decide_eq_true (by omega)
  have h2 : isQ d.source = true := decide_eq_true hs
  have h3 : isQ d.writer = true := decide_eq_true hw
  simp [badF, opS, h1, h2, h3]
 unfold stepS
 rw [if_neg (by simp [opS]), if_neg (show ¬ ¬ (0 ≤ (opS d y n).job ∧ (opS d y n).job < (C.J : Int)) from not_not_intro hj), if_neg (by rw [hb]; decide), if_neg (by simp [opS]), if_neg (by simp [opS]), if_neg (by simp [opS]), if_neg (by simp [opS])]
 have hv' : (s.own (opS d y n)).view (atI (opS d y n)).toNat = some p := hv
 unfold byPS
 rw [hv']
 simp only
 have e1 : kdI (opS d y n) = 1 := rfl
 have e2 : needI (opS d y n) = 128 := rfl
 rw [e1, e2, if_neg (by rw [hk, hsp]; simp), if_neg (by rw [hi]; decide)]
 unfold byP
 rw [if_neg (by simp [opS]), if_neg (by simp [opS]), if_pos (show (opS d y n).kind = 6 from rfl)]
 simp [opS]
theorem stepL {s : St} {d : Der} {n : Nat} (hn : n < 60) (hj : 0 ≤ d.cap.job ∧ d.cap.job < (C.J : Int)) (hw : 0 ≤ d.reader ∧ d.reader ≤ 59) {p : Ptr} (hv : s.jv d.cap.job.toNat d.reader.toNat = some p) (hk : p.kind = 1) (hsp : C.sp (p.seg - 1) = true) (hi : C.inc p.auth 32 = true) :
 stepS C s (opL d n) = (setJ s (opL d n) (setQ (s.own (opL d n)) n (quadB (s.sp (p.seg - 1).toNat).bytes n) ((s.sp (p.seg - 1).toNat).tag n)), 0) := by
 have hb : badF C (opL d n) = false := by
  have h1 : isQ (n : Int) = true := decide_eq_true (by omega)
  have h3 : isQ d.reader = true := decide_eq_true hw
  simp [badF, opL, h1, h3]
 unfold stepS
 rw [if_neg (by simp [opL]), if_neg (show ¬ ¬ (0 ≤ (opL d n).job ∧ (opL d n).job < (C.J : Int)) from not_not_intro hj), if_neg (by rw [hb]; decide), if_neg (by simp [opL]), if_neg (by simp [opL]), if_neg (by simp [opL]), if_neg (by simp [opL])]
 have hv' : (s.own (opL d n)).view (atI (opL d n)).toNat = some p := hv
 unfold byPS
 rw [hv']
 simp only
 have e1 : kdI (opL d n) = 1 := rfl
 have e2 : needI (opL d n) = 32 := rfl
 rw [e1, e2, if_neg (by rw [hk, hsp]; simp), if_neg (by rw [hi]; decide)]
 unfold byP
 rw [if_neg (by simp [opL]), if_neg (by simp [opL]), if_neg (by simp [opL]), if_pos (show (opL d n).kind = 7 from rfl)]
 simp [opL]
theorem WInv.put {l : List Der} {n : Nat} {s : St} (h : WInv C l n s) {o : COp} {q : ByteArray} {t : Bool} (hn : n < 60) (hj : 0 ≤ o.job ∧ o.job < (C.J : Int)) (ho : o.job = (l.getD n default).cap.job) (hq : q.size = 16) (ht : t = true) (hp : (ptrIn q).1 = capP (l.getD n default).cap) (hok : StV C (setJ s o (setQ (s.own o) n q t))) : WInv C l (n + 1) (setJ s o (setQ (s.own o) n q t)) := by
 have hown : StgV C 60 (s.own o) := h.ok.job o.job.toNat (by omega)
 refine ⟨hok, fun k hk => ?_⟩
 unfold St.jv
 rw [setJ_job (by rw [h.ok.nj]; omega)]
 split
 · rename_i e
   rw [setQ_view hown.ok hn hq]
   split
   · rename_i e2; subst e2; first | rw [if_pos ht, hp] | rw [hp]
   · rename_i e2
     have := h.view k (by omega)
     unfold St.jv at this
     rw [e] at this; exact this
 · rename_i e
   have hkn : k ≠ n := fun e2 => e (by rw [e2, ho])
   exact h.view k (by omega)
theorem wit_step (hA : C.Aut) {l : List Der} (hO : DOk C l) (hl : l.length ≤ 60) {n : Nat} (hn : n < l.length) {s : St} (h : WInv C l n s) : WInv C l (n + 1) (runGo C s (wOps l n (l.getD n default))) ∧ ∀ e ∈ errsGo C s (wOps l n (l.getD n default)), e = 0 := by
 have hP := hO.proved n hn
 have hwv : ∀ k d, (l.take n)[k]? = some d → k < n ∧ s.jv d.cap.job.toNat k = some (capP d.cap) := fun k d hk => by
  obtain ⟨h1, h2⟩ := getD_take hk
  have := h.view k h1
  rw [h2] at this; exact ⟨h1, this⟩
 have hspx : ∀ x : Cap, C.chan x 128 = true ∨ C.chan x 32 = true → x.kind = 1 ∧ C.sp ((capP x).seg - 1) = true := fun x hx => by
  have e : (capP x).seg - 1 = x.object := by simp only [capP]; omega
  rw [e]
  unfold CC.chan at hx
  simp only [Bool.and_eq_true, decide_eq_true_eq] at hx
  rcases hx with ⟨⟨a, b⟩, c⟩ | ⟨⟨a, b⟩, c⟩
  · exact ⟨a, b⟩
  · exact ⟨a, b⟩
 have hinc : ∀ (x : Cap) m, C.chan x m = true → C.inc (capP x).auth m = true := fun x m hx => by
  unfold CC.chan at hx
  simp only [Bool.and_eq_true] at hx
  exact hx.2
 generalize hd : l.getD n default = d at hP
 rcases hP.how with ⟨k0, _, _, _, h1, h2, h3⟩ | ⟨k1, _, _, h1, h2, y, hs0, h3, h4, h5, h6⟩ | ⟨k2, y, w, r, hs0, hw0, hr0, h1, h2, h3, h4, h5, h6, h7, h8, h9, h10, h11, h12⟩
 · have hst := stepR (C := C) (s := s) (d := d) (n := n) (by omega) hP.job hP.object (by rw [← h3]; exact h2)
   have hok := step_ok hA h.ok (o := opR d n) (by rw [hst])
   rw [hst] at hok
   have e : wOps l n d = [opR d n] := by unfold wOps; rw [if_pos k0]
   rw [e]
   refine ⟨?_, fun e he => ?_⟩
   · simp only [runGo]
     rw [nextS_ok hst]
     have hj := hP.job
     have ho := hP.object
     have hO' := hA.fit.O
     have ha := hA.au d.cap.job.toNat d.cap.object.toNat (by omega) (by omega)
     refine h.put (by omega) hj (by rw [hd]; rfl) (ptrB_size _) rfl ?_ hok
     rw [ptrIn_ptrB (ptrE_ok.2 ⟨by simp, by simp only; omega, by simp, ha, .inl rfl⟩), hd]
     unfold capP
     rw [h1, h3]
   · simp only [errsGo, List.mem_cons, List.not_mem_nil, or_false] at he
     rw [he, hst]
 · obtain ⟨hsn, hv⟩ := hwv _ _ h3
   rw [h4] at hv
   obtain ⟨hk, hsp⟩ := hspx _ (.inl h6)
   have hst := stepA (C := C) (s := s) (d := d) (n := n) (by omega) hP.job (by omega) hv hk hsp (hinc _ _ h6)
   have hok := step_ok hA h.ok (o := opA d n) (by rw [hst])
   rw [hst] at hok
   have e : wOps l n d = [opA d n] := by unfold wOps; rw [if_neg (by omega), if_pos k1]
   rw [e]
   refine ⟨?_, fun e he => ?_⟩
   · simp only [runGo]
     rw [nextS_ok hst]
     have hj := hP.job
     have ho := hP.object
     have hO' := hA.fit.O
     refine h.put (by omega) hj (by rw [hd]; rfl) (ptrB_size _) rfl ?_ hok
     rw [ptrIn_ptrB (ptrE_ok.2 ⟨by simp, by simp only [capP]; omega, by simp [capP], by simp, by simp⟩), hd]
     unfold capP
     rw [h1, h2, h5]
   · simp only [errsGo, List.mem_cons, List.not_mem_nil, or_false] at he
     rw [he, hst]
 · obtain ⟨hsn, hv⟩ := hwv _ _ h1
   obtain ⟨hwn, hvw⟩ := hwv _ _ h2
   obtain ⟨hrn, hvr⟩ := hwv _ _ h3
   rw [h8] at hvw
   rw [h9] at hvr
   obtain ⟨hkw, hspw⟩ := hspx _ (.inl h11)
   obtain ⟨hkr, hspr⟩ := hspx _ (.inr h12)
   have hyd : l.getD d.source.toNat default = y := (getD_take h1).2
   have hyj : 0 ≤ y.cap.job ∧ y.cap.job < (C.J : Int) := (hO.drv C y (mem_get (by rw [List.getElem?_take] at h1; rwa [if_pos hsn] at h1))).2.1
   have hst := stepSt (C := C) (s := s) (d := d) (y := y) (n := n) (by omega) hyj (by omega) (by omega) hvw hkw hspw (hinc _ _ h11)
   have hok := step_ok hA h.ok (o := opS d y n) (by rw [hst])
   rw [hst] at hok
   have ew : (capP w.cap).seg - 1 = w.cap.object := by simp only [capP]; omega
   have er : (capP r.cap).seg - 1 = w.cap.object := by simp only [capP]; omega
   rw [ew] at hst hok hspw
   obtain ⟨o1, o2⟩ := hA.fit.sp _ hspw
   have hq60 : quadsC C w.cap.object.toNat = 60 := by
    unfold quadsC; rw [show ((w.cap.object.toNat : Nat) : Int) = w.cap.object by omega, if_pos hspw]
   have hspo : StgV C 60 (s.sp w.cap.object.toNat) := by
    have := h.ok.sp w.cap.object.toNat (by omega)
    rw [hq60] at this; exact this
   have hyo : StgV C 60 (s.own (opS d y n)) := h.ok.job y.cap.job.toNat (by omega)
   have hvo : (s.own (opS d y n)).view d.source.toNat = some (capP y.cap) := hv
   obtain ⟨_, htag, hpin, _⟩ := hyo.ok.view hvo
   obtain ⟨t, ht⟩ : ∃ t, setP s w.cap.object.toNat (setQ (s.sp w.cap.object.toNat) n (quadB (s.own (opS d y n)).bytes d.source.toNat) ((s.own (opS d y n)).tag d.source.toNat)) = t := ⟨_, rfl⟩
   rw [ht] at hst hok
   have htj : ∀ j k, t.jv j k = s.jv j k := fun j k => by rw [← ht]; rfl
   have hqs : (quadB (s.own (opS d y n)).bytes d.source.toNat).size = 16 := quadB_size (by rw [hyo.ok.size]; omega)
   have htq : quadB (t.sp w.cap.object.toNat).bytes n = quadB (s.own (opS d y n)).bytes d.source.toNat ∧ (t.sp w.cap.object.toNat).tag n = true := by
    rw [← ht]
    unfold St.sp
    rw [setP_sp (by rw [h.ok.ns]; omega), if_pos rfl]
    have := setQ_quad hspo.ok (k := n) (q := quadB (s.own (opS d y n)).bytes d.source.toNat) (t := (s.own (opS d y n)).tag d.source.toNat) (by omega) hqs n
    rw [if_pos rfl] at this
    have h' := setQ_tag hspo.ok (k := n) (q := quadB (s.own (opS d y n)).bytes d.source.toNat) (t := (s.own (opS d y n)).tag d.source.toNat) (by omega) n
    rw [if_pos rfl] at h'
    exact ⟨this, h'.trans htag⟩
   have hst2 := stepL (C := C) (s := t) (d := d) (n := n) (by omega) hP.job (by omega) (by rw [htj]; exact hvr) hkr hspr (hinc _ _ h12)
   have hok2 := step_ok hA hok (o := opL d n) (by rw [hst2])
   rw [hst2] at hok2
   rw [er] at hst2 hok2
   rw [htq.1, htq.2] at hst2 hok2
   have e : wOps l n d = [opS d y n, opL d n] := by unfold wOps; rw [if_neg (by omega), if_neg (by omega), hyd]
   rw [e]
   refine ⟨?_, fun e he => ?_⟩
   · simp only [runGo]
     rw [nextS_ok hst, nextS_ok hst2]
     refine WInv.put (o := opL d n) ⟨hok, fun k hk => by rw [htj]; exact h.view k hk⟩ (by omega) hP.job (by rw [hd]; rfl) hqs rfl ?_ hok2
     rw [hpin, hd]
     unfold capP
     rw [h5, h6, h7]
   · simp only [errsGo, List.mem_cons, List.not_mem_nil, or_false] at he
     rcases he with he | he
     · rw [he, hst]
     · rw [he, nextS_ok hst, hst2]
theorem runGo_app : ∀ (l m : List COp) (s : St), runGo C s (l ++ m) = runGo C (runGo C s l) m
 | [], m, s => rfl
 | a :: l, m, s => runGo_app l m (nextS C s a)
theorem errsGo_app : ∀ (l m : List COp) (s : St), errsGo C s (l ++ m) = errsGo C s l ++ errsGo C (runGo C s l) m
 | [], m, s => rfl
 | a :: l, m, s => by simp only [List.cons_append, errsGo, runGo, errsGo_app l m]
theorem wit_run (hA : C.Aut) {l : List Der} (hO : DOk C l) (hl : l.length ≤ 60) : ∀ n, n ≤ l.length → WInv C l n (runGo C (startS C) (opsN l n)) ∧ ∀ e ∈ errsGo C (startS C) (opsN l n), e = 0
 | 0, _ => ⟨⟨start_ok C, fun k hk => absurd hk (Nat.not_lt_zero _)⟩, fun e he => by cases he⟩
 | n + 1, hn => by
   obtain ⟨h1, h2⟩ := wit_run hA hO hl n (by omega)
   obtain ⟨h3, h4⟩ := wit_step hA hO hl (n := n) (by omega) h1
   rw [opsN, runGo_app, errsGo_app]
   refine ⟨h3, fun e he => ?_⟩
   rcases List.mem_append.1 he with q | q
   · exact h2 e q
   · exact h4 e q
theorem wit_holds (hA : C.Aut) {l : List Der} (hO : DOk C l) (hl : l.length ≤ 60) {n : Nat} (hn : n < l.length) : Holds (runGo C (startS C) (opsN l (n + 1))) C.J (l.getD n default).cap := by
 obtain ⟨h1, _⟩ := wit_run hA hO hl (n + 1) (by omega)
 have hv := h1.view n (by omega)
 have hj := (hO.proved n hn).job
 refine ⟨(l.getD n default).cap.job.toNat, n, _, by omega, hv, ?_⟩
 unfold capOf capP
 rw [Cap.ext_iff']
 refine ⟨by simp only; omega, by simp only; omega, rfl, rfl⟩
end Go.Proofs.YtbhgehhmjpipiaaGreatDoor.C12
