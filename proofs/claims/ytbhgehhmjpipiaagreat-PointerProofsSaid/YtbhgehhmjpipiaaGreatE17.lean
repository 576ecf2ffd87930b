/- Chapter 12: which derivations the reference accepts. -/
import Derived.Test.YtbhgehhmjpipiaaGreatE16
namespace Go.Proofs.YtbhgehhmjpipiaaGreat.C12
open Go Go.Proofs Go.Proofs.YtbhgehhmjpipiaaGreat.Ab Go.Proofs.YtbhgehhmjpipiaaGreat.C10
set_option maxRecDepth 100000
set_option linter.unusedSimpArgs false
set_option linter.unusedVariables false
attribute [local congr] ite_ctx

theorem known63_good (i : Int) (n : Nat) : Ans Tryz.prog 63 [.int .i64 i, .int .i64 0, .int .i64 ((n : Int) - 1)] (.bool (knB i n)) := Within_good _ _ _

set_option maxHeartbeats 64000000 in
theorem derivationErr_good {c : Case} (h : Right c) (l : List Der) (hl : l.length ≤ 1000) (i : Nat) (hi : i < l.length) (hpl : ∀ k, k < i → placeB (cc c) (nth l k).cap = true) : Ans Tryz.prog 52 [.agg (encCase c), .sl (l.map encDer), .int .i64 (i : Int)] (.int .i64 (derE (cc c) (nth l i) (l.take i))) := by
  have hJ := h.J
  have hO := h.O
  have hTl : (l.take i).length = i := by rw [List.length_take]; omega
  have hTn : ∀ k, k < i → nth (l.take i) k = nth l k := fun k hk => by
    unfold nth; rw [List.getD_eq_getElem?_getD, List.getD_eq_getElem?_getD, List.getElem?_take, if_pos hk]
  have hhas : has (l.take i) (nth l i).cap = ((l.take i).drop 0).any fun y => decide (y.cap = (nth l i).cap) := rfl
  have hTdr : ∀ k, k < i → (l.take i).drop k = nth l k :: (l.take i).drop (k + 1) := fun k hk => by rw [drop_nth (by rw [hTl]; exact hk), hTn k hk]
  have hTend : (l.take i).drop i = [] := List.drop_eq_nil_of_le (by omega)
  generalize l.take i = T at *
  generalize hd : nth l i = d at *
  have hD : derE (cc c) d T = if ¬ formE (cc c) d T = 0 then formE (cc c) d T else if proveB (cc c) d T = true then 0 else 42 := rfl
  have hFd : formE (cc c) d T = if inB d.kind 0 2 = false then 4 else if placeB (cc c) d.cap = false then 3 else if has T d.cap = true then 13 else if extraB d = true then 5 else 0 := rfl
  have hXd : extraB d = ((!decide (d.kind = 2) && (!decide (d.writer = 0) || !decide (d.reader = 0))) || (decide (d.kind = 0) && !decide (d.source = 0))) := rfl
  have hPd : placeB (cc c) d.cap = (knB d.cap.job c.users.length && knB d.cap.object c.sec.objects.length && (decide (d.cap.kind = 1) || decide (d.cap.kind = 0))) := rfl
  have w1 : IntKind.wrap .i64 ((c.users.length : Int) - 1) = (c.users.length : Int) - 1 := wrap_i64 (by omega) (by omega)
  have w2 : IntKind.wrap .i64 ((c.sec.objects.length : Int) - 1) = (c.sec.objects.length : Int) - 1 := wrap_i64 (by omega) (by omega)
  have w3 : IntKind.wrap .i64 ((i : Int) - 1) = (i : Int) - 1 := wrap_i64 (by omega) (by omega)
  have hk := Within_good d.kind 0 2
  have hj := known63_good d.cap.job c.users.length
  have ho := known63_good d.cap.object c.sec.objects.length
  have hks := known63_good d.source i
  have hkw := known63_good d.writer i
  have hkr := known63_good d.reader i
  generalize hR : derE (cc c) d T = R at hD
  cases qk : inB d.kind 0 2 with
  | false =>
    have hR' : R = 4 := by rw [hD, hFd, qk]; rfl
    rw [qk] at hk
    refine good_run [(8, [6, 57, 58, 59, 60, 61, 62, 63, 64, 65, 66, 67, 68], [])] mixed Tryz.func52 rfl Tryz.ntmps52 (rs := [.tmp 6]) rfl (by decide +kernel) (by kernel_rfl) rfl ?_
    rw [startE_eq 257 _ _ _ rfl rfl]
    simp (maxSteps := 10000000) only [go_sem, seval,  hi, hd]
    refine call_of (hk) ?_
    simp (maxSteps := 10000000) only [go_sem, seval,  Bool.not_false]
    rw [hR']
  | true =>
  rw [qk] at hk
  have hF1 : formE (cc c) d T = if placeB (cc c) d.cap = false then 3 else if has T d.cap = true then 13 else if extraB d = true then 5 else 0 := by rw [hFd, qk]; rfl
  have hkr3 : d.kind = 0 ∨ d.kind = 1 ∨ d.kind = 2 := by
    have : 0 ≤ d.kind ∧ d.kind ≤ 2 := by simpa [inB] using qk
    omega
  have hbound : ∀ k, k < i → 0 ≤ (nth l k).cap.object ∧ (nth l k).cap.object < (c.sec.objects.length : Int) := fun k hk => by
    have := hpl k hk
    unfold placeB at this
    simp only [Bool.and_eq_true] at this
    exact knB_iff.1 this.1.2
  have hau : placeB (cc c) d.cap = true → Ans Tryz.prog 44 [.agg (encSec c.sec), .str (nth c.users d.cap.job.toNat), .int .i64 d.cap.object] (.agg [.int .i64 (auI c d.cap.job.toNat d.cap.object.toNat), .int .i64 (authorityP c.sec (nth c.users d.cap.job.toNat) (nth c.sec.objects d.cap.object.toNat)).reason, .str (authorityP c.sec (nth c.users d.cap.job.toNat) (nth c.sec.objects d.cap.object.toNat)).by_]) := fun q => by
    rw [hPd] at q
    simp only [Bool.and_eq_true] at q
    have q1 := knB_iff.1 q.1.1
    have q2 := knB_iff.1 q.1.2
    have := rAuthority_good h (j := d.cap.job.toNat) (k := d.cap.object.toNat) (by omega) (by omega)
    rwa [show ((d.cap.object.toNat : Nat) : Int) = d.cap.object by omega] at this
  have hjo : placeB (cc c) d.cap = true → (0 ≤ d.cap.job ∧ d.cap.job < (c.users.length : Int)) ∧ d.cap.job.toNat < c.users.length := fun q => by
    rw [hPd] at q
    simp only [Bool.and_eq_true] at q
    have q1 := knB_iff.1 q.1.1
    omega
  generalize placeB (cc c) d.cap = P at hPd hF1 hau hjo
  generalize knB d.cap.job c.users.length = J at hj hPd
  generalize knB d.cap.object c.sec.objects.length = O at ho hPd
  refine good_run [(8, [6, 57, 58, 59, 60, 61, 62, 63, 64, 65, 66, 67, 68], []), (1000037, [9, 46], [37, 38, 39, 40, 41, 42, 43, 44, 45]), (1000048, [8, 56], [48, 49, 50, 51, 52, 53, 54, 55]), (1000073, [8, 81], [73, 74, 75, 76, 77, 78, 79, 80]), (1000083, [8, 91], [83, 84, 85, 86, 87, 88, 89, 90]), (1000206, [2, 208], [206, 207]), (1000210, [4, 214], [210, 211, 212, 213]), (1000232, [3, 235], [232, 233, 234]), (1000237, [5, 242], [237, 238, 239, 240, 241]), (1000244, [5, 249], [244, 245, 246, 247, 248]), (1000251, [3, 254], [251, 252, 253]), (1000100, [5, 105], [100, 101, 102, 103, 104]), (1000107, [5, 112], [107, 108, 109, 110, 111]), (1000137, [5, 142], [137, 138, 139, 140, 141]), (1000144, [5, 149], [144, 145, 146, 147, 148]), (1000151, [5, 156], [151, 152, 153, 154, 155]), (1000158, [5, 163], [158, 159, 160, 161, 162]), (1000165, [5, 170], [165, 166, 167, 168, 169]), (1000172, [5, 177], [172, 173, 174, 175, 176]), (1000179, [3, 182], [179, 180, 181]), (1000184, [3, 187], [184, 185, 186])] mixed Tryz.func52 rfl Tryz.ntmps52 (rs := [.tmp 6]) rfl (by decide +kernel) (by kernel_rfl) rfl ?_
  rw [startE_eq 257 _ _ _ rfl rfl]
  simp (maxSteps := 10000000) only [go_sem, seval,  hi, hd]
  refine call_of (hk) ?_
  simp (maxSteps := 10000000) only [go_sem, seval,  Bool.not_true, w1, w2]
  refine call_of (hj) ?_
  simp (maxSteps := 10000000) only [go_sem, seval]
  obtain ⟨N1, hN1⟩ : ∃ B, (!J || !O) = B := ⟨_, rfl⟩
  refine join_of (N1) ?_ ?_
  · simp (maxSteps := 10000000) only [go_sem, seval]
    refine ifI (fun hq => ?_) fun hq => ?_
    · simp (maxSteps := 10000000) only [go_sem, seval,  hq, w2]
      refine call_of (ho) ?_
      simp (maxSteps := 10000000) only [go_sem, seval]
      rw [← hN1]; simp_all
    · simp (maxSteps := 10000000) only [go_sem, seval,  hq]
      rw [← hN1]; simp_all
  simp (maxSteps := 10000000) only [go_sem, seval]
  obtain ⟨N2, hN2⟩ : ∃ B, (N1 || (!decide (d.cap.kind = 1) && !decide (d.cap.kind = 0))) = B := ⟨_, rfl⟩
  refine join_of (N2) ?_ ?_
  · simp (contextual := true) (maxSteps := 10000000) only [go_sem, ifP_eq, seval]
    (repeat' split) <;> simp_all
  simp (maxSteps := 10000000) only [go_sem, seval]
  have hPN : P = !N2 := by
    rw [hPd, ← hN2, ← hN1]
    cases J <;> cases O <;> simp
  clear hN1 hN2 hPd
  cases N2 with
  | true =>
    have hR' : R = 3 := by rw [hD, hF1, hPN]; rfl
    simp (maxSteps := 10000000) only [go_sem, seval]
    rw [hR']
  | false =>
  have hF2 : formE (cc c) d T = if has T d.cap = true then 13 else if extraB d = true then 5 else 0 := by rw [hF1, hPN]; rfl
  have hau' := hau hPN
  obtain ⟨⟨j1, j2⟩, j3⟩ := hjo hPN
  obtain ⟨a, ha⟩ : ∃ a, auI c d.cap.job.toNat d.cap.object.toNat = a := ⟨_, rfl⟩
  rw [ha] at hau'
  simp (maxSteps := 10000000) only [go_sem, seval]
  refine loop_by ([6, 57, 58, 59, 60, 61, 62, 63, 64, 65, 66, 67, 68], []) (fun k : Nat => [(.s 9, .int .i64 (k : Int))]) (fun k => i - k) (fun k => k ≤ i ∧ has T d.cap = (T.drop k).any fun y => decide (y.cap = d.cap)) 0 rfl ⟨Nat.zero_le _, hhas⟩ rfl ?_
  rintro c' st' hst k ⟨hki, hf⟩ ih
  simp (maxSteps := 10000000) only [go_sem, seval]
  refine ifI (fun hlt => ?_) fun hlt => ?_
  · have hlt' : k < i := by omega
    have hkl : k < l.length := by omega
    have he := cap_eqB (nth l k).cap d.cap
    have hdr := hTdr k hlt'
    simp (maxSteps := 10000000) only [go_sem, seval,  hlt, hlt', hkl, he]
    refine ⟨by decide +kernel, ?_⟩
    refine Classical.byCases (fun hn : (nth l k).cap = d.cap => ?_) fun hn => ?_
    · have hnt := eq_true hn
      have hh : has T d.cap = true := by rw [hf, hdr, List.any_cons, decide_eq_true hn]; rfl
      have hR' : R = 13 := by rw [hD, hF2, hh]; rfl
      simp (maxSteps := 10000000) only [go_sem, seval,  hnt, decide_true]
      rw [hR']
    · have hnt := eq_false hn
      simp (maxSteps := 10000000) only [go_sem, seval,  hnt, decide_false]
      refine ih (k + 1) _ ⟨by omega, ?_⟩ (by omega) ?_
      · rw [hf, hdr, List.any_cons, decide_eq_false hn, Bool.false_or]
      simp (maxSteps := 10000000) only [go_sem, seval,  wrap_succ (show k < 9223372036854775807 by omega)]
  subst hst
  clear ih
  have hh : has T d.cap = false := by rw [hf, show k = i by omega, hTend]; rfl
  have hF3 : formE (cc c) d T = if extraB d = true then 5 else 0 := by rw [hF2, hh]; rfl
  clear hF1 hF2 hFd hf hTdr hhas
  simp (maxSteps := 10000000) only [go_sem, seval,  hlt]
  obtain ⟨X1, hX1⟩ : ∃ B, (!decide (d.kind = 2) && (!decide (d.writer = 0) || !decide (d.reader = 0))) = B := ⟨_, rfl⟩
  refine join_of (X1) ?_ ?_
  · simp (contextual := true) (maxSteps := 10000000) only [go_sem, ifP_eq, seval]
    (repeat' split) <;> simp_all
  simp (maxSteps := 10000000) only [go_sem, seval]
  obtain ⟨X2, hX2⟩ : ∃ B, (X1 || (decide (d.kind = 0) && !decide (d.source = 0))) = B := ⟨_, rfl⟩
  refine join_of (X2) ?_ ?_
  · simp (contextual := true) (maxSteps := 10000000) only [go_sem, ifP_eq, seval]
    (repeat' split) <;> simp_all
  simp (maxSteps := 10000000) only [go_sem, seval]
  have hXX : extraB d = X2 := by rw [hXd, ← hX2, ← hX1]
  clear hX1 hX2 hXd
  cases X2 with
  | true =>
    have hR' : R = 5 := by rw [hD, hF3, hXX]; rfl
    simp (maxSteps := 10000000) only [go_sem, seval]
    rw [hR']
  | false =>
  have hR0 : R = if proveB (cc c) d T = true then 0 else 42 := by rw [hD, hF3, hXX]; rfl
  clear hD hF3
  simp (maxSteps := 10000000) only [go_sem, seval]
  refine Classical.byCases (fun k0 : d.kind = 0 => ?_) fun k0 => ?_
  · have k0t := eq_true k0
    have hR' : R = if (decide (d.cap.kind = 1) && !decide (a = 0) && decide (a = d.cap.auth)) = true then 0 else 42 := by
      rw [hR0, proveB, if_pos k0, proveA, show (cc c).au d.cap.job.toNat d.cap.object.toNat = a from ha]
      congr 1
      by_cases e : a = d.cap.auth
      · rw [e]
      · have e' : ¬ d.cap.auth = a := fun q => e q.symm
        rw [decide_eq_false e, decide_eq_false e']; simp
    simp (maxSteps := 10000000) only [go_sem, seval,  k0t, decide_true, j1, j2, j3]
    refine callD_of (hau') ?_
    simp (maxSteps := 10000000) only [go_sem, seval]
    refine ⟨by decide +kernel, ?_⟩
    obtain ⟨A1, hA1⟩ : ∃ B, (decide (d.cap.kind = 1) && !decide (a = 0)) = B := ⟨_, rfl⟩
    refine join_of (A1) ?_ ?_
    · simp (contextual := true) (maxSteps := 10000000) only [go_sem, ifP_eq, seval]
      (repeat' split) <;> simp_all
    simp (maxSteps := 10000000) only [go_sem, seval]
    obtain ⟨A2, hA2⟩ : ∃ B, (A1 && decide (a = d.cap.auth)) = B := ⟨_, rfl⟩
    refine join_of (A2) ?_ ?_
    · simp (contextual := true) (maxSteps := 10000000) only [go_sem, ifP_eq, seval]
      (repeat' split) <;> simp_all
    simp (maxSteps := 10000000) only [go_sem, seval]
    have hRA : R = if A2 = true then 0 else 42 := by rw [hR', ← hA2, ← hA1]
    clear hA1 hA2
    cases A2 with
    | true => simp (maxSteps := 10000000) only [go_sem, seval,  Bool.not_true]; rw [hRA]; rfl
    | false => simp (maxSteps := 10000000) only [go_sem, seval,  Bool.not_false]; rw [hRA]; rfl
  have k0t := eq_false k0
  refine Classical.byCases (fun k1 : d.kind = 1 => ?_) fun k1 => ?_
  · have k1t := eq_true k1
    cases qs : knB d.source i with
    | false =>
      have hR' : R = 42 := by rw [hR0, proveB, if_neg k0, if_pos k1, hTl, qs]; rfl
      rw [qs] at hks
      simp (maxSteps := 10000000) only [go_sem, seval,  k0t, k1t, decide_true, decide_false, w3]
      refine call_of (hks) ?_
      simp (maxSteps := 10000000) only [go_sem, seval,  Bool.not_false]
      rw [hR']
    | true =>
    rw [qs] at hks
    obtain ⟨s1, s2⟩ := knB_iff.1 qs
    have s3 : d.source.toNat < i := by omega
    have s4 : d.source.toNat < l.length := by omega
    have s5 : d.source < (l.length : Int) := by omega
    have hTs := hTn _ s3
    have hbs := hbound _ s3
    generalize hs : nth l d.source.toNat = ds at hTs hbs
    generalize hsc : ds.cap = s at hbs
    have hch := isChannel_good c s 128 hbs
    have hR' : R = if (decide (d.cap.kind = 0) && decide (d.cap.auth = 0) && decide (s.job = d.cap.job) && decide (s.object = d.cap.object) && (cc c).chan s 128) = true then 0 else 42 := by
      rw [hR0, proveB, if_neg k0, if_pos k1, hTl, qs, hTs, hsc]; rfl
    simp (maxSteps := 10000000) only [go_sem, seval,  k0t, k1t, decide_true, decide_false, w3]
    refine call_of (hks) ?_
    simp (maxSteps := 10000000) only [go_sem, seval,  s1, s5, s4, hs, hsc]
    obtain ⟨M1, hM1⟩ : ∃ B, (decide (d.cap.kind = 0) && decide (d.cap.auth = 0)) = B := ⟨_, rfl⟩
    refine join_of (M1) ?_ ?_
    · simp (contextual := true) (maxSteps := 10000000) only [go_sem, ifP_eq, seval]
      (repeat' split) <;> simp_all
    simp (maxSteps := 10000000) only [go_sem, seval]
    obtain ⟨M2, hM2⟩ : ∃ B, (M1 && decide (s.job = d.cap.job)) = B := ⟨_, rfl⟩
    refine join_of (M2) ?_ ?_
    · simp (contextual := true) (maxSteps := 10000000) only [go_sem, ifP_eq, seval]
      (repeat' split) <;> simp_all
    simp (maxSteps := 10000000) only [go_sem, seval]
    obtain ⟨M3, hM3⟩ : ∃ B, (M2 && decide (s.object = d.cap.object)) = B := ⟨_, rfl⟩
    refine join_of (M3) ?_ ?_
    · simp (contextual := true) (maxSteps := 10000000) only [go_sem, ifP_eq, seval]
      (repeat' split) <;> simp_all
    simp (maxSteps := 10000000) only [go_sem, seval]
    obtain ⟨M4, hM4⟩ : ∃ B, (M3 && (cc c).chan s 128) = B := ⟨_, rfl⟩
    refine join_of (M4) ?_ ?_
    · simp (maxSteps := 10000000) only [go_sem, seval]
      refine ifI (fun hq => ?_) fun hq => ?_
      · simp (maxSteps := 10000000) only [go_sem, seval,  hq]
        refine call_of (hch) ?_
        simp (maxSteps := 10000000) only [go_sem, seval]
        rw [← hM4]; simp_all
      · simp (maxSteps := 10000000) only [go_sem, seval,  hq]
        rw [← hM4]; simp_all
    simp (maxSteps := 10000000) only [go_sem, seval]
    have hRA : R = if M4 = true then 0 else 42 := by rw [hR', ← hM4, ← hM3, ← hM2, ← hM1]
    clear hM1 hM2 hM3 hM4
    cases M4 with
    | true => simp (maxSteps := 10000000) only [go_sem, seval,  Bool.not_true]; rw [hRA]; rfl
    | false => simp (maxSteps := 10000000) only [go_sem, seval,  Bool.not_false]; rw [hRA]; rfl
  have k1t := eq_false k1
  simp (maxSteps := 10000000) only [go_sem, seval,  k0t, k1t, decide_false, w3]
  refine call_of (hks) ?_
  simp (maxSteps := 10000000) only [go_sem, seval,  w3]
  obtain ⟨K1, hK1⟩ : ∃ B, (knB d.source i && knB d.writer i) = B := ⟨_, rfl⟩
  refine join_of (K1) ?_ ?_
  · simp (maxSteps := 10000000) only [go_sem, seval]
    refine ifI (fun hq => ?_) fun hq => ?_
    · simp (maxSteps := 10000000) only [go_sem, seval,  hq, w3]
      refine call_of (hkw) ?_
      simp (maxSteps := 10000000) only [go_sem, seval]
      rw [← hK1]; simp_all
    · simp (maxSteps := 10000000) only [go_sem, seval,  hq]
      rw [← hK1]; simp_all
  simp (maxSteps := 10000000) only [go_sem, seval]
  obtain ⟨K2, hK2⟩ : ∃ B, (K1 && knB d.reader i) = B := ⟨_, rfl⟩
  refine join_of (K2) ?_ ?_
  · simp (maxSteps := 10000000) only [go_sem, seval]
    refine ifI (fun hq => ?_) fun hq => ?_
    · simp (maxSteps := 10000000) only [go_sem, seval,  hq, w3]
      refine call_of (hkr) ?_
      simp (maxSteps := 10000000) only [go_sem, seval]
      rw [← hK2]; simp_all
    · simp (maxSteps := 10000000) only [go_sem, seval,  hq]
      rw [← hK2]; simp_all
  simp (maxSteps := 10000000) only [go_sem, seval]
  cases K2 with
  | false =>
    have hR' : R = 42 := by
      rw [hR0, proveB, if_neg k0, if_neg k1, hTl, hK1, hK2]; rfl
    simp (maxSteps := 10000000) only [go_sem, seval,  Bool.not_false]
    rw [hR']
  | true =>
  have hkk : (knB d.source i = true ∧ knB d.writer i = true) ∧ knB d.reader i = true := by
    rw [← hK1] at hK2; simpa [and_assoc] using hK2
  clear hK1 hK2
  obtain ⟨⟨qs, qw⟩, qr⟩ := hkk
  obtain ⟨s1, s2⟩ := knB_iff.1 qs
  have s3 : d.source.toNat < i := by omega
  have s4 : d.source.toNat < l.length := by omega
  have s5 : d.source < (l.length : Int) := by omega
  have hTs := hTn _ s3
  have hbs := hbound _ s3
  generalize hs : nth l d.source.toNat = ds at hTs hbs
  generalize hsc : ds.cap = s at hbs
  obtain ⟨ww1, ww2⟩ := knB_iff.1 qw
  have ww3 : d.writer.toNat < i := by omega
  have w4 : d.writer.toNat < l.length := by omega
  have w5 : d.writer < (l.length : Int) := by omega
  have hTw := hTn _ ww3
  have hbw := hbound _ ww3
  generalize hw : nth l d.writer.toNat = dw at hTw hbw
  generalize hwc : dw.cap = w at hbw
  obtain ⟨r1, r2⟩ := knB_iff.1 qr
  have r3 : d.reader.toNat < i := by omega
  have r4 : d.reader.toNat < l.length := by omega
  have r5 : d.reader < (l.length : Int) := by omega
  have hTr := hTn _ r3
  have hbr := hbound _ r3
  generalize hr : nth l d.reader.toNat = dr at hTr hbr
  generalize hrc : dr.cap = r at hbr
  have hcw := isChannel_good c w 128 hbw
  have hcr := isChannel_good c r 32 hbr
  have hR' : R = if (!decide (s.job = d.cap.job) && decide (s.object = d.cap.object) && decide (s.kind = d.cap.kind) && decide (s.auth = d.cap.auth) && decide (w.job = s.job) && decide (r.job = d.cap.job) && decide (w.object = r.object) && (cc c).chan w 128 && (cc c).chan r 32) = true then 0 else 42 := by
    rw [hR0, proveB, if_neg k0, if_neg k1, hTl, qs, qw, qr, hTs, hTw, hTr, hsc, hwc, hrc]; rfl
  simp (maxSteps := 10000000) only [go_sem, seval,  s1, s5, s4, hs, hsc, ww1, w5, w4, hw, hwc, r1, r5, r4, hr, hrc]
  refine ⟨by decide +kernel, ?_⟩
  obtain ⟨R1, hR1⟩ : ∃ B, (!decide (s.job = d.cap.job) && decide (s.object = d.cap.object)) = B := ⟨_, rfl⟩
  refine join_of (R1) ?_ ?_
  · simp (contextual := true) (maxSteps := 10000000) only [go_sem, ifP_eq, seval]
    (repeat' split) <;> simp_all
  simp (maxSteps := 10000000) only [go_sem, seval]
  obtain ⟨R2, hR2⟩ : ∃ B, (R1 && decide (s.kind = d.cap.kind)) = B := ⟨_, rfl⟩
  refine join_of (R2) ?_ ?_
  · simp (contextual := true) (maxSteps := 10000000) only [go_sem, ifP_eq, seval]
    (repeat' split) <;> simp_all
  simp (maxSteps := 10000000) only [go_sem, seval]
  obtain ⟨R3, hR3⟩ : ∃ B, (R2 && decide (s.auth = d.cap.auth)) = B := ⟨_, rfl⟩
  refine join_of (R3) ?_ ?_
  · simp (contextual := true) (maxSteps := 10000000) only [go_sem, ifP_eq, seval]
    (repeat' split) <;> simp_all
  simp (maxSteps := 10000000) only [go_sem, seval]
  obtain ⟨R4, hR4⟩ : ∃ B, (R3 && decide (w.job = s.job)) = B := ⟨_, rfl⟩
  refine join_of (R4) ?_ ?_
  · simp (contextual := true) (maxSteps := 10000000) only [go_sem, ifP_eq, seval]
    (repeat' split) <;> simp_all
  simp (maxSteps := 10000000) only [go_sem, seval]
  obtain ⟨R5, hR5⟩ : ∃ B, (R4 && decide (r.job = d.cap.job)) = B := ⟨_, rfl⟩
  refine join_of (R5) ?_ ?_
  · simp (contextual := true) (maxSteps := 10000000) only [go_sem, ifP_eq, seval]
    (repeat' split) <;> simp_all
  simp (maxSteps := 10000000) only [go_sem, seval]
  obtain ⟨R6, hR6⟩ : ∃ B, (R5 && decide (w.object = r.object)) = B := ⟨_, rfl⟩
  refine join_of (R6) ?_ ?_
  · simp (contextual := true) (maxSteps := 10000000) only [go_sem, ifP_eq, seval]
    (repeat' split) <;> simp_all
  simp (maxSteps := 10000000) only [go_sem, seval]
  obtain ⟨R7, hR7⟩ : ∃ B, (R6 && (cc c).chan w 128) = B := ⟨_, rfl⟩
  refine join_of (R7) ?_ ?_
  · simp (maxSteps := 10000000) only [go_sem, seval]
    refine ifI (fun hq => ?_) fun hq => ?_
    · simp (maxSteps := 10000000) only [go_sem, seval,  hq]
      refine call_of (hcw) ?_
      simp (maxSteps := 10000000) only [go_sem, seval]
      rw [← hR7]; simp_all
    · simp (maxSteps := 10000000) only [go_sem, seval,  hq]
      rw [← hR7]; simp_all
  simp (maxSteps := 10000000) only [go_sem, seval]
  obtain ⟨R8, hR8⟩ : ∃ B, (R7 && (cc c).chan r 32) = B := ⟨_, rfl⟩
  refine join_of (R8) ?_ ?_
  · simp (maxSteps := 10000000) only [go_sem, seval]
    refine ifI (fun hq => ?_) fun hq => ?_
    · simp (maxSteps := 10000000) only [go_sem, seval,  hq]
      refine call_of (hcr) ?_
      simp (maxSteps := 10000000) only [go_sem, seval]
      rw [← hR8]; simp_all
    · simp (maxSteps := 10000000) only [go_sem, seval,  hq]
      rw [← hR8]; simp_all
  simp (maxSteps := 10000000) only [go_sem, seval]
  have hRA : R = if R8 = true then 0 else 42 := by rw [hR', ← hR8, ← hR7, ← hR6, ← hR5, ← hR4, ← hR3, ← hR2, ← hR1]
  clear hR1 hR2 hR3 hR4 hR5 hR6 hR7 hR8
  cases R8 with
  | true => simp (maxSteps := 10000000) only [go_sem, seval,  Bool.not_true]; rw [hRA]; rfl
  | false => simp (maxSteps := 10000000) only [go_sem, seval,  Bool.not_false]; rw [hRA]; rfl

set_option maxHeartbeats 8000000 in
theorem rCheckDer_good (c : Case) (hs : Fit c.sec) (hu : c.users.length ≤ 1000) (l : List Der) (hl : l.length ≤ 1000) : Ans Tryz.prog 23 [.agg (encCase c), .sl (l.map encDer)] (.tup [.int .i64 (cdE c l).1, .int .i64 (cdE c l).2]) := by
  have hE := Err12_good c hs hu
  have hdef : cdE c l = if ¬ (caseE c).2 = 0 then (0, (caseE c).2) else if 60 < l.length then (0, 2) else scanD (cc c) l l.length 0 := rfl
  generalize cdE c l = R at hdef
  refine Classical.byCases (fun he : (caseE c).2 = 0 => ?_) fun he => ?_
  case refine_2 =>
    rw [if_pos he] at hdef
    subst hdef
    generalize (caseE c).2 = e at hE he
    have het := eq_false he
    refine good_run [(7, [4, 5, 8, 17, 18, 19, 20, 21, 22, 23, 24, 25, 26, 27, 28, 29, 30], [])] mixed Tryz.func23 rfl Tryz.ntmps23 (rs := [.tmp 4, .tmp 5]) rfl (by decide +kernel) (by kernel_rfl) rfl ?_
    rw [startE_eq 33 _ _ _ rfl rfl]
    simp (maxSteps := 10000000) only [go_sem, seval]
    refine call_of (hE) ?_
    simp (maxSteps := 10000000) only [go_sem, seval,  het, not_false_eq_true, decide_true]
  rw [he] at hE
  rw [if_neg (not_not_intro he)] at hdef
  refine Classical.byCases (fun hb : (l.length : Int) > 60 => ?_) fun hb => ?_
  · rw [if_pos (by omega)] at hdef
    subst hdef
    have hbt := eq_true hb
    refine good_run [(7, [4, 5, 8, 17, 18, 19, 20, 21, 22, 23, 24, 25, 26, 27, 28, 29, 30], [])] mixed Tryz.func23 rfl Tryz.ntmps23 (rs := [.tmp 4, .tmp 5]) rfl (by decide +kernel) (by kernel_rfl) rfl ?_
    rw [startE_eq 33 _ _ _ rfl rfl]
    simp (maxSteps := 10000000) only [go_sem, seval]
    refine call_of (hE) ?_
    simp (maxSteps := 10000000) only [go_sem, seval,  hbt, decide_true]
  rw [if_neg (by omega)] at hdef
  have hbt := eq_false hb
  have h := right_of hs he
  refine good_run [(7, [4, 5, 8, 17, 18, 19, 20, 21, 22, 23, 24, 25, 26, 27, 28, 29, 30], [])] mixed Tryz.func23 rfl Tryz.ntmps23 (rs := [.tmp 4, .tmp 5]) rfl (by decide +kernel) (by kernel_rfl) rfl ?_
  rw [startE_eq 33 _ _ _ rfl rfl]
  simp (maxSteps := 10000000) only [go_sem, seval]
  refine call_of (hE) ?_
  simp (maxSteps := 10000000) only [go_sem, seval,  hbt, decide_false]
  refine loop_by ([4, 5, 8, 17, 18, 19, 20, 21, 22, 23, 24, 25, 26, 27, 28, 29, 30], []) (fun i : Nat => [(.s 7, .int .i64 (i : Int))]) (fun i => l.length - i) (fun i => i ≤ l.length ∧ (∀ k, k < i → placeB (cc c) (nth l k).cap = true) ∧ R = scanD (cc c) l (l.length - i) i) 0 rfl ⟨Nat.zero_le _, fun k hk => absurd hk (Nat.not_lt_zero _), hdef⟩ rfl ?_
  rintro c' st' hst i ⟨hi, hpl, hf⟩ ih
  simp (maxSteps := 10000000) only [go_sem, seval]
  refine ifI (fun hlt => ?_) fun hlt => ?_
  case refine_2 =>
    subst hst
    have hR : R = ((l.length : Int), 0) := by rw [hf, show l.length - i = 0 by omega]; rfl
    subst hR
    simp (maxSteps := 10000000) only [go_sem, seval,  hlt]
  have hlt' : i < l.length := by omega
  have hstep : scanD (cc c) l (l.length - i) i = if derE (cc c) (nth l i) (l.take i) = 0 then scanD (cc c) l (l.length - (i + 1)) (i + 1) else ((i : Int), derE (cc c) (nth l i) (l.take i)) := by
    rw [show l.length - i = (l.length - (i + 1)) + 1 by omega]; rfl
  rw [hstep] at hf
  have hD := derivationErr_good h l hl i hlt' hpl
  have hP : derE (cc c) (nth l i) (l.take i) = 0 → placeB (cc c) (nth l i).cap = true := fun q => by
    cases qq : placeB (cc c) (nth l i).cap with
    | true => rfl
    | false =>
      unfold derE formE at q
      rw [qq] at q
      cases qk : inB (nth l i).kind 0 2 <;> simp [qk] at q
  generalize derE (cc c) (nth l i) (l.take i) = e at hf hD hP
  simp (maxSteps := 10000000) only [go_sem, seval,  hlt]
  refine Classical.byCases (fun he0 : e = 0 => ?_) fun he0 => ?_
  · subst he0
    rw [if_pos rfl] at hf
    refine call_of (hD) ?_
    simp (maxSteps := 10000000) only [go_sem, seval]
    refine ih (i + 1) _ ⟨by omega, fun k hk => ?_, hf⟩ (by omega) ?_
    · rcases Nat.lt_or_ge k i with q | q
      · exact hpl k q
      · rw [show k = i by omega]; exact hP rfl
    simp (maxSteps := 10000000) only [go_sem, seval,  wrap_succ (show i < 9223372036854775807 by omega)]
  · have het := eq_false he0
    rw [if_neg he0] at hf
    subst hf
    refine call_of (hD) ?_
    simp (maxSteps := 10000000) only [go_sem, seval,  het, not_false_eq_true, decide_true]

end Go.Proofs.YtbhgehhmjpipiaaGreat.C12
