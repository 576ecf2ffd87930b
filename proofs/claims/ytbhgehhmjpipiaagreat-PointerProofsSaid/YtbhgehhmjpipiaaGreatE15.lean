/- Chapter 12: which derivations prove, by the program and by the reference. -/
import Derived.Test.YtbhgehhmjpipiaaGreatE14
namespace Go.Proofs.YtbhgehhmjpipiaaGreat.C12
open Go Go.Proofs Go.Proofs.YtbhgehhmjpipiaaGreat.Ab Go.Proofs.YtbhgehhmjpipiaaGreat.C10
set_option maxRecDepth 100000
set_option linter.unusedSimpArgs false
set_option linter.unusedVariables false
attribute [local congr] ite_ctx

/-- Whether a number is an index of a list of so many. -/
def knB (i : Int) (n : Nat) : Bool := inB i 0 ((n : Int) - 1)
theorem knB_iff {i : Int} {n : Nat} : knB i n = true ↔ 0 ≤ i ∧ i < (n : Int) := by unfold knB inB; rw [decide_eq_true_eq]; omega
def placeB (C : CC) (x : Cap) : Bool := knB x.job C.J && knB x.object C.O && (decide (x.kind = 1) || decide (x.kind = 0))
def extraB (d : Der) : Bool := (!decide (d.kind = 2) && (!decide (d.writer = 0) || !decide (d.reader = 0))) || (decide (d.kind = 0) && !decide (d.source = 0))
def proveA (C : CC) (x : Cap) : Bool := decide (x.kind = 1) && !decide (x.auth = 0) && decide (x.auth = C.au x.job.toNat x.object.toNat)
def proveM (C : CC) (x s : Cap) : Bool := decide (x.kind = 0) && decide (x.auth = 0) && decide (s.job = x.job) && decide (s.object = x.object) && C.chan s 128
def proveR (C : CC) (x s w r : Cap) : Bool := !decide (s.job = x.job) && decide (s.object = x.object) && decide (s.kind = x.kind) && decide (s.auth = x.auth) && decide (w.job = s.job) && decide (r.job = x.job) && decide (w.object = r.object) && C.chan w 128 && C.chan r 32
/-- Whether a derivation is as its kind says, behind others. -/
def proveB (C : CC) (d : Der) (l : List Der) : Bool :=
  if d.kind = 0 then proveA C d.cap else if d.kind = 1 then knB d.source l.length && proveM C d.cap (nth l d.source.toNat).cap
  else knB d.source l.length && knB d.writer l.length && knB d.reader l.length && proveR C d.cap (nth l d.source.toNat).cap (nth l d.writer.toNat).cap (nth l d.reader.toNat).cap
def formE (C : CC) (d : Der) (l : List Der) : Int := if inB d.kind 0 2 = false then 4 else if placeB C d.cap = false then 3 else if has l d.cap = true then 13 else if extraB d = true then 5 else 0
def derE (C : CC) (d : Der) (l : List Der) : Int := if ¬ formE C d l = 0 then formE C d l else if proveB C d l = true then 0 else 42

theorem known_good (l : List Der) (i : Int) (hl : l.length ≤ 1000000) : Ans Tryz.prog 99 [.int .i64 i, .ptr [.sl (l.map encDer)]] (.bool (knB i l.length)) := by
  have hg := pin_good i 0 ((l.length : Int) - 1)
  have w1 : IntKind.wrap .i64 ((l.length : Int) - 1) = (l.length : Int) - 1 := wrap_i64 (by omega) (by omega)
  refine good_run [] mixed Tryz.func99 rfl Tryz.ntmps99 (rs := [.tmp 3]) rfl (by decide +kernel) (by kernel_rfl) rfl ?_
  rw [startE_eq 9 _ _ _ rfl rfl]
  simp (maxSteps := 10000000) only [go_sem, seval,  w1]
  refine call_of (hg) ?_
  simp (maxSteps := 10000000) only [go_sem, seval]
  rfl
theorem and_shuffle (b1 b2 b3 b4 b5 b6 b7 b8 b9 b10 b11 : Bool) : (!b4 && b1 && b2 && b3 && b7 && b8 && true && (b5 && b9 && b10) && (b6 && b9 && b11)) = ((b1 && b2 && b3 && !b4) && (b5 && b6 && b7 && b8 && true && b9) && b10 && b11) := by
  cases b9
  · simp only [Bool.and_false, Bool.false_and]
  · simp only [Bool.and_true]; ac_rfl
theorem inc_chan {C : CC} {x : Cap} {n : Int} : C.chan x n = (decide (x.kind = 1) && C.sp x.object && C.inc x.auth n) := rfl

set_option maxHeartbeats 32000000 in
theorem proves_good {c : Case} (h : Right c) (d : Der) (l : List Der) (hl : l.length ≤ 1000) (hp : placeB (cc c) d.cap = true) : Ans Tryz.prog 56 [.agg (encCase c), .agg (encDer d), .sl (l.map encDer)] (.bool (proveB (cc c) d l)) := by
  obtain ⟨⟨hj, ho⟩, hk⟩ : (knB d.cap.job (cc c).J = true ∧ knB d.cap.object (cc c).O = true) ∧ (d.cap.kind = 1 ∨ d.cap.kind = 0) := by
    simpa [placeB, and_assoc] using hp
  rw [knB_iff] at hj ho
  have hO := h.O
  have hJn : d.cap.job.toNat < c.users.length := by have : (cc c).J = c.users.length := rfl; omega
  have hOn : d.cap.object.toNat < c.sec.objects.length := by have : (cc c).O = c.sec.objects.length := rfl; omega
  have hau := userAuthority_good h hJn hOn
  rw [show ((d.cap.job.toNat : Nat) : Int) = d.cap.job by omega, show ((d.cap.object.toNat : Nat) : Int) = d.cap.object by omega] at hau
  have hks := known_good l d.source (by omega)
  have hkw := known_good l d.writer (by omega)
  have hkr := known_good l d.reader (by omega)
  generalize hx : d.cap = x at *
  generalize hR : proveB (cc c) d l = R
  refine Classical.byCases (fun k0 : d.kind = 0 => ?_) fun k0 => ?_
  · have k0t := eq_true k0
    have hR' : R = proveA (cc c) x := by rw [← hR, proveB, if_pos k0, hx]
    have hdef : proveA (cc c) x = (decide (x.kind = 1) && !decide (x.auth = 0) && decide (x.auth = auI c x.job.toNat x.object.toNat)) := rfl
    rw [hdef] at hR'
    generalize auI c x.job.toNat x.object.toNat = n at hau hR'
    refine good_run [] mixed Tryz.func56 rfl Tryz.ntmps56 (rs := [.tmp 6]) rfl (by decide +kernel) (by kernel_rfl) rfl ?_
    rw [startE_eq 190 _ _ _ rfl rfl]
    simp (maxSteps := 10000000) only [go_sem, seval,  k0t, decide_true, hx]
    refine Classical.byCases (fun a1 : x.kind = 1 => ?_) fun a1 => ?_
    case refine_2 =>
      have a1t := eq_false a1
      simp (maxSteps := 10000000) only [go_sem, seval,  hx, a1t, decide_true, decide_false, not_true_eq_false, not_false_eq_true, Bool.not_true, Bool.not_false]
      refine ⟨by decide +kernel, ?_⟩
      rw [hR']; simp [a1] <;> omega
    have a1t := eq_true a1
    refine Classical.byCases (fun a2 : ¬ x.auth = 0 => ?_) fun a2 => ?_
    case refine_2 =>
      have a2t := eq_false a2
      simp (maxSteps := 10000000) only [go_sem, seval,  hx, a1t, a2t, decide_true, decide_false, not_true_eq_false, not_false_eq_true, Bool.not_true, Bool.not_false]
      refine ⟨by decide +kernel, ?_⟩
      rw [hR']; simp [a1, a2] <;> omega
    have a2t := eq_true a2
    refine Classical.byCases (fun a3 : x.auth = n => ?_) fun a3 => ?_
    case refine_2 =>
      have a3t := eq_false a3
      simp (maxSteps := 10000000) only [go_sem, seval,  hx, a1t, a2t, a3t, decide_true, decide_false, not_true_eq_false, not_false_eq_true, Bool.not_true, Bool.not_false]
      refine callD_of (hau) ?_
      simp (maxSteps := 10000000) only [go_sem, seval,  hx, a1t, a2t, a3t, decide_true, decide_false, not_true_eq_false, not_false_eq_true, Bool.not_true, Bool.not_false]
      refine ⟨by decide +kernel, ?_⟩
      rw [hR']; simp [a1, a2, a3] <;> omega
    have a3t := eq_true a3
    simp (maxSteps := 10000000) only [go_sem, seval,  hx, a1t, a2t, a3t, decide_true, decide_false, not_true_eq_false, not_false_eq_true, Bool.not_true, Bool.not_false]
    refine callD_of (hau) ?_
    simp (maxSteps := 10000000) only [go_sem, seval,  hx, a1t, a2t, a3t, decide_true, decide_false, not_true_eq_false, not_false_eq_true, Bool.not_true, Bool.not_false]
    refine ⟨by decide +kernel, ?_⟩
    rw [hR']; simp [a1, a2, a3] <;> omega
  have k0t := eq_false k0
  cases qs : knB d.source l.length with
  | false =>
    have hR' : R = false := by
      rw [← hR, proveB, if_neg k0, qs]; simp
    rw [qs] at hks
    refine good_run [] mixed Tryz.func56 rfl Tryz.ntmps56 (rs := [.tmp 6]) rfl (by decide +kernel) (by kernel_rfl) rfl ?_
    rw [startE_eq 190 _ _ _ rfl rfl]
    simp (maxSteps := 10000000) only [go_sem, seval,  k0t, decide_false, hx]
    refine call_of (hks) ?_
    simp (maxSteps := 10000000) only [go_sem, seval,  Bool.not_false]
    rw [hR']
  | true =>
  rw [qs] at hks
  obtain ⟨s1, s2⟩ := knB_iff.1 qs
  have s3 : d.source.toNat < l.length := by omega
  generalize hs : (nth l d.source.toNat) = ds at *
  generalize hsc : ds.cap = s
  have hsp := isSpace_good c x.object (by omega)
  have hin := pinc_good s.auth 128
  refine Classical.byCases (fun k1 : d.kind = 1 => ?_) fun k1 => ?_
  · have k1t := eq_true k1
    have hR' : R = (decide (x.kind = 0) && decide (x.auth = 0) && spB c x.object && decide (s.job = x.job) && decide (s.object = x.object) && decide (s.kind = 1) && incB s.auth 128) := by
      rw [← hR, proveB, if_neg k0, if_pos k1, qs, hx, hs, hsc, proveM, inc_chan]
      have e1 : (cc c).sp = spB c := rfl
      have e2 : (cc c).inc = incB := rfl
      rw [e1, e2, Bool.true_and]
      by_cases e : s.object = x.object
      · rw [e]; cases spB c x.object <;> simp <;> ac_rfl
      · rw [decide_eq_false e]; simp
    refine good_run [] mixed Tryz.func56 rfl Tryz.ntmps56 (rs := [.tmp 6]) rfl (by decide +kernel) (by kernel_rfl) rfl ?_
    rw [startE_eq 190 _ _ _ rfl rfl]
    simp (maxSteps := 10000000) only [go_sem, seval,  k0t, decide_false, hx]
    refine call_of (hks) ?_
    simp (maxSteps := 10000000) only [go_sem, seval,  Bool.not_true, s1, s2, s3, hs, hsc]
    simp (maxSteps := 10000000) only [go_sem, seval,  k1t, decide_true]
    refine Classical.byCases (fun a1 : x.kind = 0 => ?_) fun a1 => ?_
    case refine_2 =>
      have a1t := eq_false a1
      simp (maxSteps := 10000000) only [go_sem, seval,  hx, hs, hsc, a1t, decide_true, decide_false, Bool.not_true, Bool.not_false, not_true_eq_false, not_false_eq_true]
      rw [hR']; simp [a1]
    have a1t := eq_true a1
    refine Classical.byCases (fun a2 : x.auth = 0 => ?_) fun a2 => ?_
    case refine_2 =>
      have a2t := eq_false a2
      simp (maxSteps := 10000000) only [go_sem, seval,  hx, hs, hsc, a1t, a2t, decide_true, decide_false, Bool.not_true, Bool.not_false, not_true_eq_false, not_false_eq_true]
      rw [hR']; simp [a1, a2]
    have a2t := eq_true a2
    cases qhsp : spB c x.object with
    | false =>
      rw [qhsp] at hsp
      simp (maxSteps := 10000000) only [go_sem, seval,  hx, hs, hsc, a1t, a2t, decide_true, decide_false, Bool.not_true, Bool.not_false, not_true_eq_false, not_false_eq_true]
      refine call_of (hsp) ?_
      simp (maxSteps := 10000000) only [go_sem, seval,  hx, hs, hsc, a1t, a2t, decide_true, decide_false, Bool.not_true, Bool.not_false, not_true_eq_false, not_false_eq_true]
      rw [hR']; simp [a1, a2, qhsp]
    | true =>
      rw [qhsp] at hsp
      refine Classical.byCases (fun a4 : s.job = x.job => ?_) fun a4 => ?_
      case refine_2 =>
        have a4t := eq_false a4
        simp (maxSteps := 10000000) only [go_sem, seval,  hx, hs, hsc, a1t, a2t, a4t, decide_true, decide_false, Bool.not_true, Bool.not_false, not_true_eq_false, not_false_eq_true]
        refine call_of (hsp) ?_
        simp (maxSteps := 10000000) only [go_sem, seval,  hx, hs, hsc, a1t, a2t, a4t, decide_true, decide_false, Bool.not_true, Bool.not_false, not_true_eq_false, not_false_eq_true]
        rw [hR']; simp [a1, a2, qhsp, a4]
      have a4t := eq_true a4
      refine Classical.byCases (fun a5 : s.object = x.object => ?_) fun a5 => ?_
      case refine_2 =>
        have a5t := eq_false a5
        simp (maxSteps := 10000000) only [go_sem, seval,  hx, hs, hsc, a1t, a2t, a4t, a5t, decide_true, decide_false, Bool.not_true, Bool.not_false, not_true_eq_false, not_false_eq_true]
        refine call_of (hsp) ?_
        simp (maxSteps := 10000000) only [go_sem, seval,  hx, hs, hsc, a1t, a2t, a4t, a5t, decide_true, decide_false, Bool.not_true, Bool.not_false, not_true_eq_false, not_false_eq_true]
        rw [hR']; simp [a1, a2, qhsp, a4, a5]
      have a5t := eq_true a5
      refine Classical.byCases (fun a6 : s.kind = 1 => ?_) fun a6 => ?_
      case refine_2 =>
        have a6t := eq_false a6
        simp (maxSteps := 10000000) only [go_sem, seval,  hx, hs, hsc, a1t, a2t, a4t, a5t, a6t, decide_true, decide_false, Bool.not_true, Bool.not_false, not_true_eq_false, not_false_eq_true]
        refine call_of (hsp) ?_
        simp (maxSteps := 10000000) only [go_sem, seval,  hx, hs, hsc, a1t, a2t, a4t, a5t, a6t, decide_true, decide_false, Bool.not_true, Bool.not_false, not_true_eq_false, not_false_eq_true]
        rw [hR']; simp [a1, a2, qhsp, a4, a5, a6]
      have a6t := eq_true a6
      cases qhin : incB s.auth 128 with
      | false =>
        rw [qhin] at hin
        simp (maxSteps := 10000000) only [go_sem, seval,  hx, hs, hsc, a1t, a2t, a4t, a5t, a6t, decide_true, decide_false, Bool.not_true, Bool.not_false, not_true_eq_false, not_false_eq_true]
        refine call_of (hsp) ?_
        simp (maxSteps := 10000000) only [go_sem, seval,  hx, hs, hsc, a1t, a2t, a4t, a5t, a6t, decide_true, decide_false, Bool.not_true, Bool.not_false, not_true_eq_false, not_false_eq_true]
        refine call_of (hin) ?_
        simp (maxSteps := 10000000) only [go_sem, seval,  hx, hs, hsc, a1t, a2t, a4t, a5t, a6t, decide_true, decide_false, Bool.not_true, Bool.not_false, not_true_eq_false, not_false_eq_true]
        rw [hR']; simp [a1, a2, qhsp, a4, a5, a6, qhin]
      | true =>
        rw [qhin] at hin
        simp (maxSteps := 10000000) only [go_sem, seval,  hx, hs, hsc, a1t, a2t, a4t, a5t, a6t, decide_true, decide_false, Bool.not_true, Bool.not_false, not_true_eq_false, not_false_eq_true]
        refine call_of (hsp) ?_
        simp (maxSteps := 10000000) only [go_sem, seval,  hx, hs, hsc, a1t, a2t, a4t, a5t, a6t, decide_true, decide_false, Bool.not_true, Bool.not_false, not_true_eq_false, not_false_eq_true]
        refine call_of (hin) ?_
        simp (maxSteps := 10000000) only [go_sem, seval,  hx, hs, hsc, a1t, a2t, a4t, a5t, a6t, decide_true, decide_false, Bool.not_true, Bool.not_false, not_true_eq_false, not_false_eq_true]
        rw [hR']; simp [a1, a2, qhsp, a4, a5, a6, qhin]
  have k1t := eq_false k1
  cases qw : knB d.writer l.length with
  | false =>
    have hR' : R = false := by
      rw [← hR, proveB, if_neg k0, if_neg k1, qs, qw]; simp
    rw [qw] at hkw
    refine good_run [] mixed Tryz.func56 rfl Tryz.ntmps56 (rs := [.tmp 6]) rfl (by decide +kernel) (by kernel_rfl) rfl ?_
    rw [startE_eq 190 _ _ _ rfl rfl]
    simp (maxSteps := 10000000) only [go_sem, seval,  k0t, decide_false, hx]
    refine call_of (hks) ?_
    simp (maxSteps := 10000000) only [go_sem, seval,  Bool.not_true, s1, s2, s3, hs, hsc]
    simp (maxSteps := 10000000) only [go_sem, seval,  k1t, decide_false]
    refine call_of (hkw) ?_
    simp (maxSteps := 10000000) only [go_sem, seval,  Bool.not_false]
    rw [hR']
  | true =>
  rw [qw] at hkw
  obtain ⟨w1, w2⟩ := knB_iff.1 qw
  have w3 : d.writer.toNat < l.length := by omega
  cases qr : knB d.reader l.length with
  | false =>
    have hR' : R = false := by
      rw [← hR, proveB, if_neg k0, if_neg k1, qs, qw, qr]; simp
    rw [qr] at hkr
    refine good_run [] mixed Tryz.func56 rfl Tryz.ntmps56 (rs := [.tmp 6]) rfl (by decide +kernel) (by kernel_rfl) rfl ?_
    rw [startE_eq 190 _ _ _ rfl rfl]
    simp (maxSteps := 10000000) only [go_sem, seval,  k0t, decide_false, hx]
    refine call_of (hks) ?_
    simp (maxSteps := 10000000) only [go_sem, seval,  Bool.not_true, s1, s2, s3, hs, hsc]
    simp (maxSteps := 10000000) only [go_sem, seval,  k1t, decide_false]
    refine call_of (hkw) ?_
    simp (maxSteps := 10000000) only [go_sem, seval,  Bool.not_true]
    refine call_of (hkr) ?_
    simp (maxSteps := 10000000) only [go_sem, seval,  Bool.not_false]
    rw [hR']
  | true =>
  rw [qr] at hkr
  obtain ⟨r1, r2⟩ := knB_iff.1 qr
  have r3 : d.reader.toNat < l.length := by omega
  generalize hw : (nth l d.writer.toNat) = dw at *
  generalize hwc : dw.cap = w
  generalize hr : (nth l d.reader.toNat) = dr at *
  generalize hrc : dr.cap = r
  have hspw := isSpace_good c w.object (by omega)
  have hinw := pinc_good w.auth 128
  have hinr := pinc_good r.auth 32
  have hR' : R = ((decide (s.object = x.object) && decide (s.kind = x.kind) && decide (s.auth = x.auth) && !decide (s.job = x.job)) && (decide (w.kind = 1) && decide (r.kind = 1) && decide (w.job = s.job) && decide (r.job = x.job) && decide (w.object = r.object) && spB c w.object) && incB w.auth 128 && incB r.auth 32) := by
    rw [← hR, proveB, if_neg k0, if_neg k1, qs, qw, qr, hx, hs, hsc, hw, hwc, hr, hrc, proveR, inc_chan, inc_chan]
    have e1 : (cc c).sp = spB c := rfl
    have e2 : (cc c).inc = incB := rfl
    rw [e1, e2, Bool.true_and, Bool.true_and, Bool.true_and]
    by_cases e : w.object = r.object
    · rw [← e, decide_eq_true rfl]
      exact and_shuffle _ _ _ _ _ _ _ _ _ _ _
    · rw [decide_eq_false e]; simp
  refine good_run [(1000121, [5, 126], [121, 122, 123, 124, 125]), (1000128, [5, 133], [128, 129, 130, 131, 132]), (1000135, [5, 140], [135, 136, 137, 138, 139]), (1000145, [3, 148], [145, 146, 147]), (1000150, [5, 155], [150, 151, 152, 153, 154]), (1000157, [5, 162], [157, 158, 159, 160, 161]), (1000164, [5, 169], [164, 165, 166, 167, 168]), (1000171, [4, 175], [171, 172, 173, 174])] mixed Tryz.func56 rfl Tryz.ntmps56 (rs := [.tmp 6]) rfl (by decide +kernel) (by kernel_rfl) rfl ?_
  rw [startE_eq 190 _ _ _ rfl rfl]
  simp (maxSteps := 10000000) only [go_sem, seval,  k0t, decide_false, hx]
  refine call_of (hks) ?_
  simp (maxSteps := 10000000) only [go_sem, seval,  Bool.not_true, s1, s2, s3, hs, hsc]
  simp (maxSteps := 10000000) only [go_sem, seval,  k1t, decide_false]
  refine call_of (hkw) ?_
  simp (maxSteps := 10000000) only [go_sem, seval,  Bool.not_true]
  refine call_of (hkr) ?_
  simp (maxSteps := 10000000) only [go_sem, seval,  Bool.not_true, w1, w2, w3, r1, r2, r3, hw, hwc, hr, hrc]
  refine ⟨by decide +kernel, ?_⟩
  obtain ⟨A1, hA1⟩ : ∃ B, (decide (s.object = x.object) && decide (s.kind = x.kind)) = B := ⟨_, rfl⟩
  refine join_of (A1) ?_ ?_
  · simp (contextual := true) (maxSteps := 10000000) only [go_sem, ifP_eq, seval]
    try (split <;> simp_all)
  simp (maxSteps := 10000000) only [go_sem, seval]
  obtain ⟨A2, hA2⟩ : ∃ B, (A1 && decide (s.auth = x.auth)) = B := ⟨_, rfl⟩
  refine join_of (A2) ?_ ?_
  · simp (contextual := true) (maxSteps := 10000000) only [go_sem, ifP_eq, seval]
    try (split <;> simp_all)
  simp (maxSteps := 10000000) only [go_sem, seval]
  obtain ⟨A3, hA3⟩ : ∃ B, (A2 && !decide (s.job = x.job)) = B := ⟨_, rfl⟩
  refine join_of (A3) ?_ ?_
  · simp (contextual := true) (maxSteps := 10000000) only [go_sem, ifP_eq, seval]
    try (split <;> simp_all)
  simp (maxSteps := 10000000) only [go_sem, seval]
  obtain ⟨G1, hG1⟩ : ∃ B, (decide (w.kind = 1) && decide (r.kind = 1)) = B := ⟨_, rfl⟩
  refine join_of (G1) ?_ ?_
  · simp (contextual := true) (maxSteps := 10000000) only [go_sem, ifP_eq, seval]
    try (split <;> simp_all)
  simp (maxSteps := 10000000) only [go_sem, seval]
  obtain ⟨G2, hG2⟩ : ∃ B, (G1 && decide (w.job = s.job)) = B := ⟨_, rfl⟩
  refine join_of (G2) ?_ ?_
  · simp (contextual := true) (maxSteps := 10000000) only [go_sem, ifP_eq, seval]
    try (split <;> simp_all)
  simp (maxSteps := 10000000) only [go_sem, seval]
  obtain ⟨G3, hG3⟩ : ∃ B, (G2 && decide (r.job = x.job)) = B := ⟨_, rfl⟩
  refine join_of (G3) ?_ ?_
  · simp (contextual := true) (maxSteps := 10000000) only [go_sem, ifP_eq, seval]
    try (split <;> simp_all)
  simp (maxSteps := 10000000) only [go_sem, seval]
  obtain ⟨G4, hG4⟩ : ∃ B, (G3 && decide (w.object = r.object)) = B := ⟨_, rfl⟩
  refine join_of (G4) ?_ ?_
  · simp (contextual := true) (maxSteps := 10000000) only [go_sem, ifP_eq, seval]
    try (split <;> simp_all)
  simp (maxSteps := 10000000) only [go_sem, seval]
  obtain ⟨G5, hG5⟩ : ∃ B, (G4 && spB c w.object) = B := ⟨_, rfl⟩
  refine join_of G5 ?_ ?_
  · simp (maxSteps := 10000000) only [go_sem, seval]
    refine ifI (fun hj => ?_) fun hj => ?_
    · simp (maxSteps := 10000000) only [go_sem, seval,  hj]
      refine call_of (hspw) ?_
      simp (maxSteps := 10000000) only [go_sem, seval]
      rw [← hG5, hj]; rfl
    · simp (maxSteps := 10000000) only [go_sem, seval,  hj]
      rw [← hG5]; simp [hj]
  simp (maxSteps := 10000000) only [go_sem, seval]
  have hR2 : R = (A3 && G5 && incB w.auth 128 && incB r.auth 32) := by rw [hR', ← hA3, ← hA2, ← hA1, ← hG5, ← hG4, ← hG3, ← hG2, ← hG1]
  clear hA1 hA2 hA3 hG1 hG2 hG3 hG4 hG5
  cases A3 with
  | false =>
    simp (maxSteps := 10000000) only [go_sem, seval]
    rw [hR2]; rfl
  | true =>
    cases G5 with
    | false =>
      simp (maxSteps := 10000000) only [go_sem, seval]
      rw [hR2]; rfl
    | true =>
      cases qiw : incB w.auth 128 with
      | false =>
        rw [qiw] at hinw
        simp (maxSteps := 10000000) only [go_sem, seval]
        refine call_of (hinw) ?_
        simp (maxSteps := 10000000) only [go_sem, seval]
        rw [hR2, qiw]; rfl
      | true =>
        rw [qiw] at hinw
        simp (maxSteps := 10000000) only [go_sem, seval]
        refine call_of (hinw) ?_
        simp (maxSteps := 10000000) only [go_sem, seval]
        refine call_of (hinr) ?_
        simp (maxSteps := 10000000) only [go_sem, seval]
        rw [hR2, qiw]; rfl


end Go.Proofs.YtbhgehhmjpipiaaGreat.C12
