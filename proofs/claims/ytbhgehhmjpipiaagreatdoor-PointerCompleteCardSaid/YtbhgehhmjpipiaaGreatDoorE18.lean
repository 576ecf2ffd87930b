/- Chapter 12: which derivations prove, by the program and by the reference. -/
import Derived.Test.YtbhgehhmjpipiaaGreatDoorU1
set_option linter.unusedSimpArgs false
set_option linter.unusedVariables false
namespace Go.Proofs.YtbhgehhmjpipiaaGreatDoor.C12
open Go Go.Proofs Go.Proofs.YtbhgehhmjpipiaaGreatDoor.Ab Go.Proofs.YtbhgehhmjpipiaaGreatDoor.C10
set_option maxRecDepth 100000
attribute [local congr] ite_ctx
def knB (i : Int) (n : Nat) : Bool := inB i 0 ((n : Int) - 1)
theorem knB_iff {i : Int} {n : Nat} : knB i n = true ↔ 0 ≤ i ∧ i < (n : Int) := by unfold knB inB; rw [decide_eq_true_eq]; omega
def placeB (C : CC) (x : Cap) : Bool := knB x.job C.J && knB x.object C.O && (decide (x.kind = 1) || decide (x.kind = 0))
def extraB (d : Der) : Bool := (!decide (d.kind = 2) && (!decide (d.writer = 0) || !decide (d.reader = 0))) || (decide (d.kind = 0) && !decide (d.source = 0))
def proveA (C : CC) (x : Cap) : Bool := decide (x.kind = 1) && !decide (x.auth = 0) && decide (x.auth = C.au x.job.toNat x.object.toNat)
def proveM (C : CC) (x s : Cap) : Bool := decide (x.kind = 0) && decide (x.auth = 0) && decide (s.job = x.job) && decide (s.object = x.object) && C.chan s 128
def proveR (C : CC) (x s w r : Cap) : Bool := !decide (s.job = x.job) && decide (s.object = x.object) && decide (s.kind = x.kind) && decide (s.auth = x.auth) && decide (w.job = s.job) && decide (r.job = x.job) && decide (w.object = r.object) && C.chan w 128 && C.chan r 32
def proveB (C : CC) (d : Der) (l : List Der) : Bool :=
 if d.kind = 0 then proveA C d.cap else if d.kind = 1 then knB d.source l.length && proveM C d.cap (nth l d.source.toNat).cap
 else knB d.source l.length && knB d.writer l.length && knB d.reader l.length && proveR C d.cap (nth l d.source.toNat).cap (nth l d.writer.toNat).cap (nth l d.reader.toNat).cap
def formE (C : CC) (d : Der) (l : List Der) : Int := if inB d.kind 0 2 = false then 4 else if placeB C d.cap = false then 3 else if has l d.cap = true then 13 else if extraB d = true then 5 else 0
def derE (C : CC) (d : Der) (l : List Der) : Int := if ¬ formE C d l = 0 then formE C d l else if proveB C d l = true then 0 else 42
theorem known_good (l : List Der) (i : Int) (hl : l.length ≤ 1000000) : Ans Tryz.prog 97 [.int .i64 i, .ptr [.sl (l.map encDer)]] (.bool (knB i l.length)) := by
 have hg := pin_good i 0 ((l.length : Int) - 1)
 have w1 : IntKind.wrap .i64 ((l.length : Int) - 1) = (l.length : Int) - 1 := wrap_i64 (by omega) (by omega)
 refine good_run [] mixed Tryz.func97 rfl Tryz.ntmps97 (rs := [.tmp 3]) rfl (by decide +kernel) (by kernel_rfl) rfl ?_
 rw [startE_eq 9 _ _ _ rfl rfl]
 simp only [go_sem, seval, w1]
 refine call_of (hg) ?_
 simp only [go_sem, seval]
 rfl
theorem and_shuffle (b1 b2 b3 b4 b5 b6 b7 b8 b9 b10 b11 : Bool) : (!b4 && b1 && b2 && b3 && b7 && b8 && true && (b5 && b9 && b10) && (b6 && b9 && b11)) = ((b1 && b2 && b3 && !b4) && (b5 && b6 && b7 && b8 && true && b9) && b10 && b11) := by
 cases b9
 · simp only [Bool.and_false, Bool.false_and]
 · simp only [Bool.and_true]; ac_rfl
theorem inc_chan {C : CC} {x : Cap} {n : Int} : C.chan x n = (decide (x.kind = 1) && C.sp x.object && C.inc x.auth n) := rfl
set_option maxHeartbeats 32000000 in
theorem proves_good {c : Case} (h : Right c) (d : Der) (l : List Der) (hl : l.length ≤ 1000) (hp : placeB (cc c) d.cap = true) : Ans Tryz.prog 52 [.agg (encCase c), .agg (encDer d), .sl (l.map encDer)] (.bool (proveB (cc c) d l)) := by
 obtain ⟨⟨hj, ho⟩, hk⟩ : (knB d.cap.job (cc c).J = true ∧ knB d.cap.object (cc c).O = true) ∧ (d.cap.kind = 1 ∨ d.cap.kind = 0) := by
  simpa [placeB, and_assoc] using hp
 rw [knB_iff] at hj ho
 have hO := h.O
 have hJn : d.cap.job.toNat < c.users.length := by have : (cc c).J = c.users.length := rfl; omega
 have hOn : d.cap.object.toNat < c.sec.objects.length := by have : (cc c).O = c.sec.objects.length := rfl; omega
 have hau := userAuthority_good h hJn hOn
 rw [show ((d.cap.job.toNat : Nat) : Int) = d.cap.job by omega, show ((d.cap.object.toNat : Nat) : Int) = d.cap.object by omega] at hau
 have hks := known_good l d.source (by omega)
 have hkw := known_good l d.writer (by omega)
 have hkr := known_good l d.reader (by omega)
 generalize hx : d.cap = x at *
 generalize hR : proveB (cc c) d l = R
 refine Classical.byCases (fun k0 : d.kind = 0 => ?_) fun k0 => ?_
 · have k0t := eq_true k0
   have hR' : R = proveA (cc c) x := by rw [← hR, proveB, if_pos k0, hx]
   have hdef : proveA (cc c) x = (decide (x.kind = 1) && !decide (x.auth = 0) && decide (x.auth = auI c x.job.toNat x.object.toNat)) := rfl
   rw [hdef] at hR'
   generalize auI c x.job.toNat x.object.toNat = n at hau hR'
   refine good_run [] mixed Tryz.func52 rfl Tryz.ntmps52 (rs := [.tmp 6]) rfl (by decide +kernel) (by kernel_rfl) rfl ?_
   rw [startE_eq 190 _ _ _ rfl rfl]
   simp only [go_sem, seval, k0t, decide_true, hx]
   refine Classical.byCases (fun a1 : x.kind = 1 => ?_) fun a1 => ?_
   case refine_2 =>
    have a1t := eq_false a1
    simp only [go_sem, seval, hx, a1t, decide_true, decide_false, not_true_eq_false, not_false_eq_true, Bool.not_true, Bool.not_false]
    refine ⟨by decide +kernel, ?_⟩
    rw [hR']; simp [a1] <;> omega
   have a1t := eq_true a1
   refine Classical.byCases (fun a2 : ¬ x.auth = 0 => ?_) fun a2 => ?_
   case refine_2 =>
    have a2t := eq_false a2
    simp only [go_sem, seval, hx, a1t, a2t, decide_true, decide_false, not_true_eq_false, not_false_eq_true, Bool.not_true, Bool.not_false]
    refine ⟨by decide +kernel, ?_⟩
    rw [hR']; simp [a1, a2] <;> omega
   have a2t := eq_true a2
   refine Classical.byCases (fun a3 : x.auth = n => ?_) fun a3 => ?_
   case refine_2 =>
    have a3t := eq_false a3
    simp only [go_sem, seval, hx, a1t, a2t, a3t, decide_true, decide_false, not_true_eq_false, not_false_eq_true, Bool.not_true, Bool.not_false]
    refine callD_of (hau) ?_
    simp only [go_sem, seval, hx, a1t, a2t, a3t, decide_true, decide_false, not_true_eq_false, not_false_eq_true, Bool.not_true, Bool.not_false]
    refine ⟨by decide +kernel, ?_⟩
    rw [hR']; simp [a1, a2, a3] <;> omega
   have a3t := eq_true a3
   simp only [go_sem, seval, hx, a1t, a2t, a3t, decide_true, decide_false, not_true_eq_false, not_false_eq_true, Bool.not_true, Bool.not_false]
   refine callD_of (hau) ?_
   simp only [go_sem, seval, hx, a1t, a2t, a3t, decide_true, decide_false, not_true_eq_false, not_false_eq_true, Bool.not_true, Bool.not_false]
   refine ⟨by decide +kernel, ?_⟩
   rw [hR']; simp [a1, a2, a3] <;> omega
 have k0t := eq_false k0
 cases qs : knB d.source l.length with
 | false =>
   have hR' : R = false := by
    rw [← hR, proveB, if_neg k0, qs]; simp
   rw [qs] at hks
   refine good_run [] mixed Tryz.func52 rfl Tryz.ntmps52 (rs := [.tmp 6]) rfl (by decide +kernel) (by kernel_rfl) rfl ?_
   rw [startE_eq 190 _ _ _ rfl rfl]
   simp only [go_sem, seval, k0t, decide_false, hx]
   refine call_of (hks) ?_
   simp only [go_sem, seval, Bool.not_false]
   rw [hR']
 | true =>
 rw [qs] at hks
 obtain ⟨s1, s2⟩ := knB_iff.1 qs
 have s3 : d.source.toNat < l.length := by omega
 generalize hs : (nth l d.source.toNat) = ds at *
 generalize hsc : ds.cap = s
 have hsp := isSpace_good c x.object (by omega)
 have hin := pinc_good s.auth 128
 refine Classical.byCases (fun k1 : d.kind = 1 => ?_) fun k1 => ?_
 · have k1t := eq_true k1
   have hR' : R = (decide (x.kind = 0) && decide (x.auth = 0) && spB c x.object && decide (s.job = x.job) && decide (s.object = x.object) && decide (s.kind = 1) && incB s.auth 128) := by
    rw [← hR, proveB, if_neg k0, if_pos k1, qs, hx, hs, hsc, proveM, inc_chan]
    have e1 : (cc c).sp = spB c := rfl
    have e2 : (cc c).inc = incB := rfl
    rw [e1, e2, Bool.true_and]
    by_cases e : s.object = x.object
    · rw [e]; cases spB c x.object <;> simp <;> ac_rfl
    · rw [decide_eq_false e]; simp
   refine good_run [] mixed Tryz.func52 rfl Tryz.ntmps52 (rs := [.tmp 6]) rfl (by decide +kernel) (by kernel_rfl) rfl ?_
   rw [startE_eq 190 _ _ _ rfl rfl]
   simp only [go_sem, seval, k0t, decide_false, hx]
   refine call_of (hks) ?_
   simp only [go_sem, seval, Bool.not_true, s1, s2, s3, hs, hsc]
   simp only [go_sem, seval, k1t, decide_true]
   refine Classical.byCases (fun a1 : x.kind = 0 => ?_) fun a1 => ?_
   case refine_2 =>
    have a1t := eq_false a1
    simp only [go_sem, seval, hx, hs, hsc, a1t, decide_true, decide_false, Bool.not_true, Bool.not_false, not_true_eq_false, not_false_eq_true]
    rw [hR']; simp [a1]
   have a1t := eq_true a1
   refine Classical.byCases (fun a2 : x.auth = 0 => ?_) fun a2 => ?_
   case refine_2 =>
    have a2t := eq_false a2
    simp only [go_sem, seval, hx, hs, hsc, a1t, a2t, decide_true, decide_false, Bool.not_true, Bool.not_false, not_true_eq_false, not_false_eq_true]
    rw [hR']; simp [a1, a2]
   have a2t := eq_true a2
   cases qhsp : spB c x.object with
   | false =>
     rw [qhsp] at hsp
     simp only [go_sem, seval, hx, hs, hsc, a1t, a2t, decide_true, decide_false, Bool.not_true, Bool.not_false, not_true_eq_false, not_false_eq_true]
     refine call_of (hsp) ?_
     simp only [go_sem, seval, hx, hs, hsc, a1t, a2t, decide_true, decide_false, Bool.not_true, Bool.not_false, not_true_eq_false, not_false_eq_true]
     rw [hR']; simp [a1, a2, qhsp]
   | true =>
     rw [qhsp] at hsp
     refine Classical.byCases (fun a4 : s.job = x.job => ?_) fun a4 => ?_
     case refine_2 =>
      have a4t := eq_false a4
      simp only [go_sem, seval, hx, hs, hsc, a1t, a2t, a4t, decide_true, decide_false, Bool.not_true, Bool.not_false, not_true_eq_false, not_false_eq_true]
      refine call_of (hsp) ?_
      simp only [go_sem, seval, hx, hs, hsc, a1t, a2t, a4t, decide_true, decide_false, Bool.not_true, Bool.not_false, not_true_eq_false, not_false_eq_true]
      rw [hR']; simp [a1, a2, qhsp, a4]
     have a4t := eq_true a4
     refine Classical.byCases (fun a5 : s.object = x.object => ?_) fun a5 => ?_
     case refine_2 =>
      have a5t := eq_false a5
      simp only [go_sem, seval, hx, hs, hsc, a1t, a2t, a4t, a5t, decide_true, decide_false, Bool.not_true, Bool.not_false, not_true_eq_false, not_false_eq_true]
      refine call_of (hsp) ?_
      simp only [go_sem, seval, hx, hs, hsc, a1t, a2t, a4t, a5t, decide_true, decide_false, Bool.not_true, Bool.not_false, not_true_eq_false, not_false_eq_true]
      rw [hR']; simp [a1, a2, qhsp, a4, a5]
     have a5t := eq_true a5
     refine Classical.byCases (fun a6 : s.kind = 1 => ?_) fun a6 => ?_
     case refine_2 =>
      have a6t := eq_false a6
      simp only [go_sem, seval, hx, hs, hsc, a1t, a2t, a4t, a5t, a6t, decide_true, decide_false, Bool.not_true, Bool.not_false, not_true_eq_false, not_false_eq_true]
      refine call_of (hsp) ?_
      simp only [go_sem, seval, hx, hs, hsc, a1t, a2t, a4t, a5t, a6t, decide_true, decide_false, Bool.not_true, Bool.not_false, not_true_eq_false, not_false_eq_true]
      rw [hR']; simp [a1, a2, qhsp, a4, a5, a6]
     have a6t := eq_true a6
     cases qhin : incB s.auth 128 with
     | false =>
       rw [qhin] at hin
       simp only [go_sem, seval, hx, hs, hsc, a1t, a2t, a4t, a5t, a6t, decide_true, decide_false, Bool.not_true, Bool.not_false, not_true_eq_false, not_false_eq_true]
       refine call_of (hsp) ?_
       simp only [go_sem, seval, hx, hs, hsc, a1t, a2t, a4t, a5t, a6t, decide_true, decide_false, Bool.not_true, Bool.not_false, not_true_eq_false, not_false_eq_true]
       refine call_of (hin) ?_
       simp only [go_sem, seval, hx, hs, hsc, a1t, a2t, a4t, a5t, a6t, decide_true, decide_false, Bool.not_true, Bool.not_false, not_true_eq_false, not_false_eq_true]
       rw [hR']; simp [a1, a2, qhsp, a4, a5, a6, qhin]
     | true =>
       rw [qhin] at hin
       simp only [go_sem, seval, hx, hs, hsc, a1t, a2t, a4t, a5t, a6t, decide_true, decide_false, Bool.not_true, Bool.not_false, not_true_eq_false, not_false_eq_true]
       refine call_of (hsp) ?_
       simp only [go_sem, seval, hx, hs, hsc, a1t, a2t, a4t, a5t, a6t, decide_true, decide_false, Bool.not_true, Bool.not_false, not_true_eq_false, not_false_eq_true]
       refine call_of (hin) ?_
       simp only [go_sem, seval, hx, hs, hsc, a1t, a2t, a4t, a5t, a6t, decide_true, decide_false, Bool.not_true, Bool.not_false, not_true_eq_false, not_false_eq_true]
       rw [hR']; simp [a1, a2, qhsp, a4, a5, a6, qhin]
 have k1t := eq_false k1
 cases qw : knB d.writer l.length with
 | false =>
   have hR' : R = false := by
    rw [← hR, proveB, if_neg k0, if_neg k1, qs, qw]; simp
   rw [qw] at hkw
   refine good_run [] mixed Tryz.func52 rfl Tryz.ntmps52 (rs := [.tmp 6]) rfl (by decide +kernel) (by kernel_rfl) rfl ?_
   rw [startE_eq 190 _ _ _ rfl rfl]
   simp only [go_sem, seval, k0t, decide_false, hx]
   refine call_of (hks) ?_
   simp only [go_sem, seval, Bool.not_true, s1, s2, s3, hs, hsc]
   simp only [go_sem, seval, k1t, decide_false]
   refine call_of (hkw) ?_
   simp only [go_sem, seval, Bool.not_false]
   rw [hR']
 | true =>
 rw [qw] at hkw
 obtain ⟨w1, w2⟩ := knB_iff.1 qw
 have w3 : d.writer.toNat < l.length := by omega
 cases qr : knB d.reader l.length with
 | false =>
   have hR' : R = false := by
    rw [← hR, proveB, if_neg k0, if_neg k1, qs, qw, qr]; simp
   rw [qr] at hkr
   refine good_run [] mixed Tryz.func52 rfl Tryz.ntmps52 (rs := [.tmp 6]) rfl (by decide +kernel) (by kernel_rfl) rfl ?_
   rw [startE_eq 190 _ _ _ rfl rfl]
   simp only [go_sem, seval, k0t, decide_false, hx]
   refine call_of (hks) ?_
   simp only [go_sem, seval, Bool.not_true, s1, s2, s3, hs, hsc]
   simp only [go_sem, seval, k1t, decide_false]
   refine call_of (hkw) ?_
   simp only [go_sem, seval, Bool.not_true]
   refine call_of (hkr) ?_
   simp only [go_sem, seval, Bool.not_false]
   rw [hR']
 | true =>
 rw [qr] at hkr
 obtain ⟨r1, r2⟩ := knB_iff.1 qr
 have r3 : d.reader.toNat < l.length := by omega
 generalize hw : (nth l d.writer.toNat) = dw at *
 generalize hwc : dw.cap = w
 generalize hr : (nth l d.reader.toNat) = dr at *
 generalize hrc : dr.cap = r
 have hspw := isSpace_good c w.object (by omega)
 have hinw := pinc_good w.auth 128
 have hinr := pinc_good r.auth 32
 have hR' : R = ((decide (s.object = x.object) && decide (s.kind = x.kind) && decide (s.auth = x.auth) && !decide (s.job = x.job)) && (decide (w.kind = 1) && decide (r.kind = 1) && decide (w.job = s.job) && decide (r.job = x.job) && decide (w.object = r.object) && spB c w.object) && incB w.auth 128 && incB r.auth 32) := by
  rw [← hR, proveB, if_neg k0, if_neg k1, qs, qw, qr, hx, hs, hsc, hw, hwc, hr, hrc, proveR, inc_chan, inc_chan]
  have e1 : (cc c).sp = spB c := rfl
  have e2 : (cc c).inc = incB := rfl
  rw [e1, e2, Bool.true_and, Bool.true_and, Bool.true_and]
  by_cases e : w.object = r.object
  · rw [← e, decide_eq_true rfl]
    exact and_shuffle _ _ _ _ _ _ _ _ _ _ _
  · rw [decide_eq_false e]; simp
 refine good_run [(1000121, [5, 126], [121, 122, 123, 124, 125]), (1000128, [5, 133], [128, 129, 130, 131, 132]), (1000135, [5, 140], [135, 136, 137, 138, 139]), (1000145, [3, 148], [145, 146, 147]), (1000150, [5, 155], [150, 151, 152, 153, 154]), (1000157, [5, 162], [157, 158, 159, 160, 161]), (1000164, [5, 169], [164, 165, 166, 167, 168]), (1000171, [4, 175], [171, 172, 173, 174])] mixed Tryz.func52 rfl Tryz.ntmps52 (rs := [.tmp 6]) rfl (by decide +kernel) (by kernel_rfl) rfl ?_
 rw [startE_eq 190 _ _ _ rfl rfl]
 simp only [go_sem, seval, k0t, decide_false, hx]
 refine call_of (hks) ?_
 simp only [go_sem, seval, Bool.not_true, s1, s2, s3, hs, hsc]
 simp only [go_sem, seval, k1t, decide_false]
 refine call_of (hkw) ?_
 simp only [go_sem, seval, Bool.not_true]
 refine call_of (hkr) ?_
 simp only [go_sem, seval, Bool.not_true, w1, w2, w3, r1, r2, r3, hw, hwc, hr, hrc]
 refine ⟨by decide +kernel, ?_⟩
 obtain ⟨A1, hA1⟩ : ∃ B, (decide (s.object = x.object) && decide (s.kind = x.kind)) = B := ⟨_, rfl⟩
 refine join_of (A1) ?_ ?_
 · simp (contextual := true) only [go_sem, ifP_eq, seval]
   try (split <;> simp_all)
 simp only [go_sem, seval]
 obtain ⟨A2, hA2⟩ : ∃ B, (A1 && decide (s.auth = x.auth)) = B := ⟨_, rfl⟩
 refine join_of (A2) ?_ ?_
 · simp (contextual := true) only [go_sem, ifP_eq, seval]
   try (split <;> simp_all)
 simp only [go_sem, seval]
 obtain ⟨A3, hA3⟩ : ∃ B, (A2 && !decide (s.job = x.job)) = B := ⟨_, rfl⟩
 refine join_of (A3) ?_ ?_
 · simp (contextual := true) only [go_sem, ifP_eq, seval]
   try (split <;> simp_all)
 simp only [go_sem, seval]
 obtain ⟨G1, hG1⟩ : ∃ B, (decide (w.kind = 1) && decide (r.kind = 1)) = B := ⟨_, rfl⟩
 refine join_of (G1) ?_ ?_
 · simp (contextual := true) only [go_sem, ifP_eq, seval]
   try (split <;> simp_all)
 simp only [go_sem, seval]
 obtain ⟨G2, hG2⟩ : ∃ B, (G1 && decide (w.job = s.job)) = B := ⟨_, rfl⟩
 refine join_of (G2) ?_ ?_
 · simp (contextual := true) only [go_sem, ifP_eq, seval]
   try (split <;> simp_all)
 simp only [go_sem, seval]
 obtain ⟨G3, hG3⟩ : ∃ B, (G2 && decide (r.job = x.job)) = B := ⟨_, rfl⟩
 refine join_of (G3) ?_ ?_
 · simp (contextual := true) only [go_sem, ifP_eq, seval]
   try (split <;> simp_all)
 simp only [go_sem, seval]
 obtain ⟨G4, hG4⟩ : ∃ B, (G3 && decide (w.object = r.object)) = B := ⟨_, rfl⟩
 refine join_of (G4) ?_ ?_
 · simp (contextual := true) only [go_sem, ifP_eq, seval]
   try (split <;> simp_all)
 simp only [go_sem, seval]
 obtain ⟨G5, hG5⟩ : ∃ B, (G4 && spB c w.object) = B := ⟨_, rfl⟩
 refine join_of G5 ?_ ?_
 · simp only [go_sem, seval]
   refine ifI (fun hj => ?_) fun hj => ?_
   · simp only [go_sem, seval, hj]
     refine call_of (hspw) ?_
     simp only [go_sem, seval]
     rw [← hG5, hj]; rfl
   · simp only [go_sem, seval, hj]
     rw [← hG5]; simp [hj]
 simp only [go_sem, seval]
 have hR2 : R = (A3 && G5 && incB w.auth 128 && incB r.auth 32) := by rw [hR', ← hA3, ← hA2, ← hA1, ← hG5, ← hG4, ← hG3, ← hG2, ← hG1]
 clear hA1 hA2 hA3 hG1 hG2 hG3 hG4 hG5
 cases A3 with
 | false =>
   simp only [go_sem, seval]
   rw [hR2]; rfl
 | true =>
   cases G5 with
   | false =>
     simp only [go_sem, seval]
     rw [hR2]; rfl
   | true =>
     cases qiw : incB w.auth 128 with
     | false =>
       rw [qiw] at hinw
       simp only [go_sem, seval]
       refine call_of (hinw) ?_
       simp only [go_sem, seval]
       rw [hR2, qiw]; rfl
     | true =>
       rw [qiw] at hinw
       simp only [go_sem, seval]
       refine call_of (hinw) ?_
       simp only [go_sem, seval]
       refine call_of (hinr) ?_
       simp only [go_sem, seval]
       rw [hR2, qiw]; rfl
set_option maxRecDepth 100000
theorem isSameD_good (y : Der) (x : Cap) : Ans Tryz.prog 96 [.agg (encDer y), .ptr (encCap x)] (.bool (decide (y.cap = x))) := by
 have he := cap_eqB y.cap x
 refine good_run [] mixed Tryz.func96 rfl Tryz.ntmps96 (rs := [.tmp 3]) rfl (by decide +kernel) (by kernel_rfl) rfl ?_
 rw [startE_eq 8 _ _ _ rfl rfl]
 simp only [go_sem, seval, he]
theorem IndexDV (l : List Der) (x : Cap) (h : l.length ≤ 1000000) : Ans Tryz.prog 136 [.sl (l.map encDer), .fn 96 [.ptr (encCap x)]] (.int .i64 (findIx (fun y : Der => decide (y.cap = x)) l 0)) := by
 refine good_run [(2, [4, 5, 9, 10, 11, 12, 13, 14, 15, 16, 17, 18], [])] mixed Tryz.func136 rfl Tryz.ntmps136 (rs := [.tmp 4]) rfl (by decide +kernel) (by kernel_rfl) rfl ?_
 rw [startE_eq 19 _ _ _ rfl rfl]
 simp only [go_sem, seval]
 refine loop_by ([4, 5, 9, 10, 11, 12, 13, 14, 15, 16, 17, 18], []) (fun i : Nat => [(.s 8, .int .i64 (i : Int))]) (fun i => l.length - i) (fun i => i ≤ l.length ∧ findIx (fun y : Der => decide (y.cap = x)) l 0 = findIx (fun y : Der => decide (y.cap = x)) (l.drop i) i) 0 rfl ⟨Nat.zero_le _, rfl⟩ rfl ?_
 rintro c' st' hst i ⟨hi, hf⟩ ih
 simp only [go_sem, seval]
 refine ifI (fun hlt => ?_) fun hlt => ?_
 · have hlt' : i < l.length := by omega
   simp only [go_sem, seval, hlt, hlt']
   refine call_of (isSameD_good (nth l i) x) ?_
   simp only [go_sem, seval]
   refine ifI (fun hn => ?_) fun hn => ?_
   · simp only [go_sem, seval, hn]
     rw [hf, drop_nth hlt', findIx, if_pos (by simpa using hn)]
   · simp only [go_sem, seval, hn]
     refine ih (i + 1) _ ⟨by omega, ?_⟩ (by omega) ?_
     · rw [hf, drop_nth hlt', findIx, if_neg (by simpa using hn)]
     simp only [go_sem, seval, wrap_succ (show i < 9223372036854775807 by omega)]
 · subst hst
   simp only [go_sem, seval, hlt]
   rw [hf, List.drop_eq_nil_of_le (by omega)]; rfl
theorem ContainsDV (l : List Der) (x : Cap) (h : l.length ≤ 1000000) : Ans Tryz.prog 95 [.sl (l.map encDer), .fn 96 [.ptr (encCap x)]] (.bool (has l x)) := by
 have hI := IndexDV l x h
 rw [← has_ix]
 refine good_run [] mixed Tryz.func95 rfl Tryz.ntmps95 (rs := [.tmp 4]) rfl (by decide +kernel) (by kernel_rfl) rfl ?_
 rw [startE_eq 9 _ _ _ rfl rfl]
 simp only [go_sem, seval]
 refine call_of (hI) ?_
 simp only [go_sem, seval]
theorem formE_eq (C : CC) (d : Der) (l : List Der) : formE C d l = firstE [if (!inB d.kind 0 2) = true then 4 else 0, if (!placeB C d.cap) = true then 3 else 0, if has l d.cap = true then 13 else 0, if extraB d = true then 5 else 0] := by
 unfold formE
 cases inB d.kind 0 2 <;> cases placeB C d.cap <;> cases has l d.cap <;> cases extraB d <;> rfl
theorem pfirst4_good (a b c d : Int) : Ans Tryz.prog 33 [.sl [[.int .i64 a], [.int .i64 b], [.int .i64 c], [.int .i64 d]]] (.int .i64 (firstE [a, b, c, d])) := pfirst_good [a, b, c, d] (by simp)
set_option maxHeartbeats 32000000 in
theorem formErr_good {c : Case} (hJ : c.users.length ≤ 1000) (hO : c.sec.objects.length ≤ 1000) (d : Der) (l : List Der) (hl : l.length ≤ 1000) : Ans Tryz.prog 51 [.agg (encCase c), .agg (encDer d), .sl (l.map encDer)] (.int .i64 (formE (cc c) d l)) := by
 have hC := ContainsDV l d.cap (by omega)
 have w1 : IntKind.wrap .i64 ((c.users.length : Int) - 1) = (c.users.length : Int) - 1 := wrap_i64 (by omega) (by omega)
 have w2 : IntKind.wrap .i64 ((c.sec.objects.length : Int) - 1) = (c.sec.objects.length : Int) - 1 := wrap_i64 (by omega) (by omega)
 have hj : Ans Tryz.prog 69 [.int .i64 d.cap.job, .int .i64 0, .int .i64 ((c.users.length : Int) - 1)] (.bool (knB d.cap.job c.users.length)) := pin_good _ _ _
 have ho : Ans Tryz.prog 69 [.int .i64 d.cap.object, .int .i64 0, .int .i64 ((c.sec.objects.length : Int) - 1)] (.bool (knB d.cap.object c.sec.objects.length)) := pin_good _ _ _
 have hk := pin_good d.kind 0 2
 have hPd : placeB (cc c) d.cap = (knB d.cap.job c.users.length && knB d.cap.object c.sec.objects.length && (decide (d.cap.kind = 1) || decide (d.cap.kind = 0))) := rfl
 have hXd : extraB d = ((!decide (d.kind = 2) && (!decide (d.writer = 0) || !decide (d.reader = 0))) || (decide (d.kind = 0) && !decide (d.source = 0))) := rfl
 rw [formE_eq]
 generalize placeB (cc c) d.cap = P at hPd
 generalize extraB d = X at hXd
 generalize hR : firstE [if (!inB d.kind 0 2) = true then 4 else 0, if (!P) = true then 3 else 0, if has l d.cap = true then 13 else 0, if X = true then 5 else 0] = R
 generalize inB d.kind 0 2 = K at hk hR
 generalize has l d.cap = H at hC hR
 refine good_run [(1000024, [8, 32], [24, 25, 26, 27, 28, 29, 30, 31]), (1000034, [8, 42], [34, 35, 36, 37, 38, 39, 40, 41]), (1000047, [8, 55], [47, 48, 49, 50, 51, 52, 53, 54]), (1000057, [8, 65], [57, 58, 59, 60, 61, 62, 63, 64])] mixed Tryz.func51 rfl Tryz.ntmps51 (rs := [.tmp 6]) rfl (by decide +kernel) (by kernel_rfl) rfl ?_
 rw [startE_eq 80 _ _ _ rfl rfl]
 simp only [go_sem, seval]
 refine call_of (hC) ?_
 simp only [go_sem, seval, w1, w2]
 refine call_of (hj) ?_
 simp only [go_sem, seval, w1, w2]
 obtain ⟨P1, hP1⟩ : ∃ B, (knB d.cap.job c.users.length && knB d.cap.object c.sec.objects.length) = B := ⟨_, rfl⟩
 refine join_of P1 ?_ ?_
 · simp only [go_sem, seval]
   refine ifI (fun hq => ?_) fun hq => ?_
   · simp only [go_sem, seval, hq, w2]
     refine call_of (ho) ?_
     simp only [go_sem, seval]
     rw [← hP1, hq]; rfl
   · simp only [go_sem, seval, hq]
     rw [← hP1]; simp [hq]
 simp only [go_sem, seval]
 obtain ⟨P2, hP2⟩ : ∃ B, (P1 && (decide (d.cap.kind = 1) || decide (d.cap.kind = 0))) = B := ⟨_, rfl⟩
 refine join_of (P2) ?_ ?_
 · simp (contextual := true) only [go_sem, ifP_eq, seval]
   (repeat' split) <;> simp_all
 simp only [go_sem, seval]
 obtain ⟨X1, hX1⟩ : ∃ B, (!decide (d.kind = 2) && (!decide (d.writer = 0) || !decide (d.reader = 0))) = B := ⟨_, rfl⟩
 refine join_of (X1) ?_ ?_
 · simp (contextual := true) only [go_sem, ifP_eq, seval]
   (repeat' split) <;> simp_all
 simp only [go_sem, seval]
 obtain ⟨X2, hX2⟩ : ∃ B, (X1 || (decide (d.kind = 0) && !decide (d.source = 0))) = B := ⟨_, rfl⟩
 refine join_of (X2) ?_ ?_
 · simp (contextual := true) only [go_sem, ifP_eq, seval]
   (repeat' split) <;> simp_all
 simp only [go_sem, seval]
 have hPP : P = P2 := by rw [hPd, ← hP2, ← hP1]
 have hXX : X = X2 := by rw [hXd, ← hX2, ← hX1]
 rw [hPP, hXX] at hR
 refine call_of (hk) ?_
 simp only [go_sem, seval]
 refine call_of (pcond_good _ _) ?_
 simp only [go_sem, seval]
 refine call_of (pcond_good _ _) ?_
 simp only [go_sem, seval]
 refine call_of (pcond_good _ _) ?_
 simp only [go_sem, seval]
 refine call_of (pcond_good _ _) ?_
 simp only [go_sem, seval]
 refine call_of (pfirst4_good _ _ _ _) ?_
 simp only [go_sem, seval]
 exact hR
def scanD (C : CC) (l : List Der) : Nat → Nat → Int × Int
 | 0, _ => ((l.length : Int), 0)
 | n + 1, i => if derE C (nth l i) (l.take i) = 0 then scanD C l n (i + 1) else ((i : Int), derE C (nth l i) (l.take i))
def cdE (c : Case) (l : List Der) : Int × Int := if ¬ (caseE c).2 = 0 then (0, (caseE c).2) else if 60 < l.length then (0, 2) else scanD (cc c) l l.length 0
set_option maxHeartbeats 8000000 in
theorem CheckDer_good (c : Case) (hs : Fit c.sec) (hu : c.users.length ≤ 1000) (l : List Der) (hl : l.length ≤ 1000) : Ans Tryz.prog 22 [.agg (encCase c), .sl (l.map encDer)] (.tup [.int .i64 (cdE c l).1, .int .i64 (cdE c l).2]) := by
 have hE := caseErr_good c hs hu
 have hdef : cdE c l = if ¬ (caseE c).2 = 0 then (0, (caseE c).2) else if 60 < l.length then (0, 2) else scanD (cc c) l l.length 0 := rfl
 generalize cdE c l = R at hdef
 refine Classical.byCases (fun he : (caseE c).2 = 0 => ?_) fun he => ?_
 case refine_2 =>
  rw [if_pos he] at hdef
  subst hdef
  generalize (caseE c).2 = e at hE he
  have het := eq_false he
  have hf : ∀ y, Ans Tryz.prog 33 [.sl [[.int .i64 e], [.int .i64 y]]] (.int .i64 e) := fun y => by
   have := pfirst2_good e y
   have q : firstE [e, y] = e := by simp [firstE, he]
   rwa [q] at this
  refine good_run [(5, [4, 5, 7, 8, 9, 24, 25, 26, 27, 28, 29, 30, 31, 32, 33, 34, 35, 36, 37, 38, 39, 40, 41, 42, 43, 44, 45, 46, 47, 48], [8, 8])] mixed Tryz.func22 rfl Tryz.ntmps22 (rs := [.tmp 4, .tmp 5]) rfl (by decide +kernel) (by kernel_rfl) rfl ?_
  rw [startE_eq 51 _ _ _ rfl rfl]
  simp only [go_sem, seval]
  refine call_of (hE) ?_
  simp only [go_sem, seval]
  refine call_of (pcond_good _ _) ?_
  simp only [go_sem, seval]
  refine call_of (hf _) ?_
  simp only [go_sem, seval, het, not_false_eq_true, decide_true]
 rw [he] at hE
 rw [if_neg (not_not_intro he)] at hdef
 refine Classical.byCases (fun hb : (l.length : Int) > 60 => ?_) fun hb => ?_
 · rw [if_pos (by omega)] at hdef
   subst hdef
   have hbt := eq_true hb
   refine good_run [(5, [4, 5, 7, 8, 9, 24, 25, 26, 27, 28, 29, 30, 31, 32, 33, 34, 35, 36, 37, 38, 39, 40, 41, 42, 43, 44, 45, 46, 47, 48], [8, 8])] mixed Tryz.func22 rfl Tryz.ntmps22 (rs := [.tmp 4, .tmp 5]) rfl (by decide +kernel) (by kernel_rfl) rfl ?_
   rw [startE_eq 51 _ _ _ rfl rfl]
   simp only [go_sem, seval]
   refine call_of (hE) ?_
   simp only [go_sem, seval, hbt, decide_true]
   refine call_of (condT 2) ?_
   simp only [go_sem, seval]
   refine call_of (first2_0 2) ?_
   simp only [go_sem, seval]
 rw [if_neg (by omega)] at hdef
 have hbt := eq_false hb
 have h := right_of hs he
 have hJ := h.J
 have hO := h.O
 refine good_run [(5, [4, 5, 7, 8, 9, 24, 25, 26, 27, 28, 29, 30, 31, 32, 33, 34, 35, 36, 37, 38, 39, 40, 41, 42, 43, 44, 45, 46, 47, 48], [8, 8])] mixed Tryz.func22 rfl Tryz.ntmps22 (rs := [.tmp 4, .tmp 5]) rfl (by decide +kernel) (by kernel_rfl) rfl ?_
 rw [startE_eq 51 _ _ _ rfl rfl]
 simp only [go_sem, seval]
 refine call_of (hE) ?_
 simp only [go_sem, seval, hbt, decide_false]
 refine call_of (condF 2) ?_
 simp only [go_sem, seval]
 refine call_of (first2_0 0) ?_
 simp only [go_sem, seval]
 refine loop_by ([4, 5, 7, 8, 9, 24, 25, 26, 27, 28, 29, 30, 31, 32, 33, 34, 35, 36, 37, 38, 39, 40, 41, 42, 43, 44, 45, 46, 47, 48], [8, 8]) (fun i : Nat => [(.s 23, .int .i64 (i : Int)), (.o 8, deadV i)]) (fun i => l.length - i) (fun i => i ≤ l.length ∧ R = scanD (cc c) l (l.length - i) i) 0 rfl ⟨Nat.zero_le _, hdef⟩ ?_ ?_
 · simp only [go_sem, seval]
 rintro c' st' hst i ⟨hi, hf⟩ ih
 simp only [go_sem, seval]
 refine ifI (fun hlt => ?_) fun hlt => ?_
 case refine_2 =>
  subst hst
  have hR : R = ((l.length : Int), 0) := by rw [hf, show l.length - i = 0 by omega]; rfl
  subst hR
  simp only [go_sem, seval, hlt]
 have hlt' : i < l.length := by omega
 have hstep : scanD (cc c) l (l.length - i) i = if derE (cc c) (nth l i) (l.take i) = 0 then scanD (cc c) l (l.length - (i + 1)) (i + 1) else ((i : Int), derE (cc c) (nth l i) (l.take i)) := by
  rw [show l.length - i = (l.length - (i + 1)) + 1 by omega]; rfl
 rw [hstep] at hf
 have hD : derE (cc c) (nth l i) (l.take i) = if ¬ formE (cc c) (nth l i) (l.take i) = 0 then formE (cc c) (nth l i) (l.take i) else if proveB (cc c) (nth l i) (l.take i) = true then 0 else 42 := rfl
 have htl : (l.take i).length ≤ 1000 := by rw [List.length_take]; omega
 have hF := formErr_good (c := c) (by omega) (by omega) (nth l i) (l.take i) htl
 have hP := fun q => proves_good h (nth l i) (l.take i) htl q
 have hpl : formE (cc c) (nth l i) (l.take i) = 0 → placeB (cc c) (nth l i).cap = true := fun q => by
  unfold formE at q
  cases qq : placeB (cc c) (nth l i).cap with
  | true => rfl
  | false =>
    rw [qq] at q
    cases qk : inB (nth l i).kind 0 2 <;> simp [qk] at q
 generalize derE (cc c) (nth l i) (l.take i) = e at hf hD
 generalize formE (cc c) (nth l i) (l.take i) = f at hF hD hpl
 refine Classical.byCases (fun hf0 : f = 0 => ?_) fun hf0 => ?_
 case refine_2 =>
  have hft := eq_false hf0
  rw [if_pos hf0] at hD
  subst hD
  rw [if_neg hf0] at hf
  subst hf
  simp only [go_sem, seval, hlt, hlt', hi]
  refine callD_of (hF) ?_
  simp only [go_sem, seval]
  refine ⟨by decide +kernel, ?_⟩
  simp only [go_sem, seval, hft, not_false_eq_true, decide_true, decide_false]
 subst hf0
 rw [if_neg (by simp)] at hD
 have hP' := hP (hpl rfl)
 cases hb2 : proveB (cc c) (nth l i) (l.take i) with
 | false =>
   rw [hb2] at hP' hD
   rw [if_neg (by decide)] at hD
   subst hD
   rw [if_neg (by decide)] at hf
   subst hf
   simp only [go_sem, seval, hlt, hlt', hi]
   refine callD_of (hF) ?_
   simp only [go_sem, seval]
   refine ⟨by decide +kernel, ?_⟩
   simp only [go_sem, seval, hi]
   refine callD_of (hP') ?_
   simp only [go_sem, seval, Bool.not_false]
   refine callD_of (condT 42) ?_
   simp only [go_sem, seval]
   decide +kernel
 | true =>
   rw [hb2] at hP' hD
   rw [if_pos rfl] at hD
   subst hD
   rw [if_pos rfl] at hf
   simp only [go_sem, seval, hlt, hlt', hi]
   refine callD_of (hF) ?_
   simp only [go_sem, seval]
   refine ⟨by decide +kernel, ?_⟩
   simp only [go_sem, seval, hi]
   refine callD_of (hP') ?_
   simp only [go_sem, seval, Bool.not_true]
   refine callD_of (condF 42) ?_
   simp only [go_sem, seval]
   refine ⟨by decide +kernel, ?_⟩
   refine ih (i + 1) _ ⟨by omega, hf⟩ (by omega) ?_
   simp only [go_sem, seval, wrap_succ (show i < 9223372036854775807 by omega)]
set_option maxRecDepth 100000
theorem some_nth {α : Type} [Inhabited α] {l : List α} {k : Nat} {y : α} (h : l[k]? = some y) : k < l.length ∧ nth l k = y := by
 have hk : k < l.length := by
  rcases Nat.lt_or_ge k l.length with q | q
  · exact q
  · rw [List.getElem?_eq_none q] at h; cases h
 refine ⟨hk, ?_⟩
 show l.getD k default = y
 rw [List.getD_eq_getElem?_getD, h]; rfl
theorem knB_of {i : Int} {n : Nat} (h : 0 ≤ i) (hn : i.toNat < n) : knB i n = true := knB_iff.2 ⟨h, by omega⟩
theorem DOk.fresh {C : CC} {l : List Der} (h : DOk C l) {n : Nat} (hn : n < l.length) : has (l.take n) (nth l n).cap = false := by
 cases hb : has (l.take n) (nth l n).cap with
 | false => rfl
 | true =>
   exfalso
   have hm := has_iff.1 hb
   have hnd := h.nodup
   rw [← List.take_append_drop n l, List.map_append, List.nodup_append] at hnd
   refine hnd.2.2 _ hm (nth l n).cap (List.mem_map.2 ⟨nth l n, ?_, rfl⟩) rfl
   rw [List.drop_eq_getElem_cons hn, nth_eq hn]
   exact List.mem_cons_self
theorem DOk.derE {C : CC} (hF : C.Fit) {l : List Der} (h : DOk C l) {n : Nat} (hn : n < l.length) : C12.derE C (nth l n) (l.take n) = 0 := by
 have hp := h.proved n hn
 have hfr := h.fresh hn
 have hk : (nth l n).cap.kind = 1 ∨ (nth l n).cap.kind = 0 := by
  rcases ((h.drv C (nth l n) (nth_mem hn)).1.form C hF.sp).2.2 with q | q
  · exact .inr q.1
  · exact .inl q.1
 have hgd : l.getD n default = nth l n := rfl
 rw [hgd] at hp
 generalize nth l n = d at hp hfr hk
 generalize l.take n = m at hp hfr
 obtain ⟨hj, ho, hw⟩ := hp
 have hkn1 : knB d.cap.job C.J = true := knB_iff.2 hj
 have hkn2 : knB d.cap.object C.O = true := knB_iff.2 ho
 have b : placeB C d.cap = true := by
  unfold placeB; rw [hkn1, hkn2]
  rcases hk with q | q <;> rw [q] <;> rfl
 have key : inB d.kind 0 2 = true ∧ extraB d = false ∧ proveB C d m = true := by
  rcases hw with ⟨k0, s0, w0, r0, c1, a0, ae⟩ | ⟨k1, w0, r0, c0, a0, y, s0, hy, hyj, hyo, hyc⟩ | ⟨k2, y, w, r, s0, w0, r0, hy, hw, hr, q1, q2, q3, q4, q5, q6, q7, q8, q9⟩
  · refine ⟨by rw [k0]; decide, by simp [extraB, k0, s0, w0, r0], ?_⟩
    unfold proveB proveA
    rw [if_pos k0, ← ae]
    simp [c1, a0]
  · obtain ⟨b1, b2⟩ := some_nth hy
    refine ⟨by rw [k1]; decide, by simp [extraB, k1, w0, r0], ?_⟩
    unfold proveB proveM
    rw [if_neg (by rw [k1]; decide), if_pos k1, knB_of s0 b1, b2]
    simp [c0, a0, hyj, hyo, hyc]
  · obtain ⟨b1, b2⟩ := some_nth hy
    obtain ⟨b3, b4⟩ := some_nth hw
    obtain ⟨b5, b6⟩ := some_nth hr
    refine ⟨by rw [k2]; decide, by simp [extraB, k2], ?_⟩
    unfold proveB proveR
    rw [if_neg (by rw [k2]; decide), if_neg (by rw [k2]; decide), knB_of s0 b1, knB_of w0 b3, knB_of r0 b5, b2, b4, b6]
    simp [q1, q2, q3, q4, q5, q6, q7, q8, q9]
 obtain ⟨a, c, e⟩ := key
 have hf : formE C d m = 0 := by
  unfold formE
  rw [if_neg (by rw [a]; decide), if_neg (by rw [b]; decide), if_neg (by rw [hfr]; decide), if_neg (by rw [c]; decide)]
 unfold C12.derE
 rw [hf, if_neg (by decide), if_pos e]
theorem scanD_ok {C : CC} {l : List Der} (h : ∀ i, i < l.length → C12.derE C (nth l i) (l.take i) = 0) : ∀ n i, i + n ≤ l.length → scanD C l n i = ((l.length : Int), 0) := by
 intro n
 induction n with
 | zero => intro i hi; rfl
 | succ n ih =>
   intro i hi
   unfold scanD
   rw [if_pos (h i (by omega))]
   exact ih (i + 1) (by omega)
theorem cdE_derive {c : Case} (h : Right c) (he : (caseE c).2 = 0) : cdE c (derive (cc c)) = (((derive (cc c)).length : Int), 0) := by
 unfold cdE
 rw [if_neg (not_not_intro he), if_neg (by have := derive_len h; omega)]
 exact scanD_ok (fun i hi => (derive_ok h).derE h.cfit hi) _ 0 (by omega)
theorem derive_rlen {c : Case} (h : Right c) : (derive (cc c)).length = (rClosure (cc c)).length := by
 have h1 := (derive_ok h).nodup
 have h2 := sorted_nodup (rClosure_done h.cfit).ok.sorted
 have a := nodup_le h1 (m := rClosure (cc c)) fun x hx => (rClosure_mem h x).2 hx
 have b := nodup_le h2 (m := (derive (cc c)).map Der.cap) fun x hx => (rClosure_mem h x).1 hx
 rw [List.length_map] at a b
 omega
theorem Derive_good {c : Case} (h : Right c) (he : (caseE c).2 = 0) : Ans Tryz.prog 21 [.agg (encCase c)] (.tup [.sl ((derive (cc c)).map encDer), .int .i64 0]) := by
 have hE := caseErr_good c h.fit (by have := h.J; omega)
 rw [he] at hE
 have hD := derive_good c h
 generalize derive (cc c) = L at hD
 refine good_run [] mixed Tryz.func21 rfl Tryz.ntmps21 (rs := [.tmp 2, .tmp 3]) rfl (by decide +kernel) (by kernel_rfl) rfl ?_
 rw [startE_eq 12 _ _ _ rfl rfl]
 simp only [go_sem, seval]
 refine call_of (hE) ?_
 simp only [go_sem, seval]
 refine call_of (hD) ?_
 simp only [go_sem, seval]
end Go.Proofs.YtbhgehhmjpipiaaGreatDoor.C12
