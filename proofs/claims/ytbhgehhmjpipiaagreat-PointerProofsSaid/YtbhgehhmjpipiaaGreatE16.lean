/- Chapter 12: the form of derivations; which derivations the program accepts. -/
import Derived.Test.YtbhgehhmjpipiaaGreatE15
namespace Go.Proofs.YtbhgehhmjpipiaaGreat.C12
open Go Go.Proofs Go.Proofs.YtbhgehhmjpipiaaGreat.Ab Go.Proofs.YtbhgehhmjpipiaaGreat.C10
set_option maxRecDepth 100000
set_option linter.unusedSimpArgs false
set_option linter.unusedVariables false
attribute [local congr] ite_ctx

theorem isSameD_good (y : Der) (x : Cap) : Ans Tryz.prog 97 [.agg (encDer y), .ptr (encCap x)] (.bool (decide (y.cap = x))) := by
  have he := cap_eqB y.cap x
  refine good_run [] mixed Tryz.func97 rfl Tryz.ntmps97 (rs := [.tmp 3]) rfl (by decide +kernel) (by kernel_rfl) rfl ?_
  rw [startE_eq 8 _ _ _ rfl rfl]
  simp (maxSteps := 10000000) only [go_sem, seval,  he]
theorem IndexDV (l : List Der) (x : Cap) (h : l.length ≤ 1000000) : Ans Tryz.prog 130 [.sl (l.map encDer), .fn 97 [.ptr (encCap x)]] (.int .i64 (findIx (fun y : Der => decide (y.cap = x)) l 0)) := by
  refine good_run [(2, [4, 5, 9, 10, 11, 12, 13, 14, 15, 16, 17, 18], [])] mixed Tryz.func130 rfl Tryz.ntmps130 (rs := [.tmp 4]) rfl (by decide +kernel) (by kernel_rfl) rfl ?_
  rw [startE_eq 19 _ _ _ rfl rfl]
  simp (maxSteps := 10000000) only [go_sem, seval]
  refine loop_by ([4, 5, 9, 10, 11, 12, 13, 14, 15, 16, 17, 18], []) (fun i : Nat => [(.s 8, .int .i64 (i : Int))]) (fun i => l.length - i) (fun i => i ≤ l.length ∧ findIx (fun y : Der => decide (y.cap = x)) l 0 = findIx (fun y : Der => decide (y.cap = x)) (l.drop i) i) 0 rfl ⟨Nat.zero_le _, rfl⟩ rfl ?_
  rintro c' st' hst i ⟨hi, hf⟩ ih
  simp (maxSteps := 10000000) only [go_sem, seval]
  refine ifI (fun hlt => ?_) fun hlt => ?_
  · have hlt' : i < l.length := by omega
    simp (maxSteps := 10000000) only [go_sem, seval,  hlt, hlt']
    refine call_of (isSameD_good (nth l i) x) ?_
    simp (maxSteps := 10000000) only [go_sem, seval]
    refine ifI (fun hn => ?_) fun hn => ?_
    · simp (maxSteps := 10000000) only [go_sem, seval,  hn]
      rw [hf, drop_nth hlt', findIx, if_pos (by simpa using hn)]
    · simp (maxSteps := 10000000) only [go_sem, seval,  hn]
      refine ih (i + 1) _ ⟨by omega, ?_⟩ (by omega) ?_
      · rw [hf, drop_nth hlt', findIx, if_neg (by simpa using hn)]
      simp (maxSteps := 10000000) only [go_sem, seval,  wrap_succ (show i < 9223372036854775807 by omega)]
  · subst hst
    simp (maxSteps := 10000000) only [go_sem, seval,  hlt]
    rw [hf, List.drop_eq_nil_of_le (by omega)]; rfl
theorem ContainsDV (l : List Der) (x : Cap) (h : l.length ≤ 1000000) : Ans Tryz.prog 96 [.sl (l.map encDer), .fn 97 [.ptr (encCap x)]] (.bool (has l x)) := by
  have hI := IndexDV l x h
  rw [← has_ix]
  refine good_run [] mixed Tryz.func96 rfl Tryz.ntmps96 (rs := [.tmp 4]) rfl (by decide +kernel) (by kernel_rfl) rfl ?_
  rw [startE_eq 9 _ _ _ rfl rfl]
  simp (maxSteps := 10000000) only [go_sem, seval]
  refine call_of (hI) ?_
  simp (maxSteps := 10000000) only [go_sem, seval]
theorem formE_eq (C : CC) (d : Der) (l : List Der) : formE C d l = firstE [if (!inB d.kind 0 2) = true then 4 else 0, if (!placeB C d.cap) = true then 3 else 0, if has l d.cap = true then 13 else 0, if extraB d = true then 5 else 0] := by
  unfold formE
  cases inB d.kind 0 2 <;> cases placeB C d.cap <;> cases has l d.cap <;> cases extraB d <;> rfl
theorem pfirst4_good (a b c d : Int) : Ans Tryz.prog 53 [.sl [[.int .i64 a], [.int .i64 b], [.int .i64 c], [.int .i64 d]]] (.int .i64 (firstE [a, b, c, d])) := pfirst_good [a, b, c, d] (by simp)

set_option maxHeartbeats 32000000 in
theorem formErr_good {c : Case} (hJ : c.users.length ≤ 1000) (hO : c.sec.objects.length ≤ 1000) (d : Der) (l : List Der) (hl : l.length ≤ 1000) : Ans Tryz.prog 55 [.agg (encCase c), .agg (encDer d), .sl (l.map encDer)] (.int .i64 (formE (cc c) d l)) := by
  have hC := ContainsDV l d.cap (by omega)
  have w1 : IntKind.wrap .i64 ((c.users.length : Int) - 1) = (c.users.length : Int) - 1 := wrap_i64 (by omega) (by omega)
  have w2 : IntKind.wrap .i64 ((c.sec.objects.length : Int) - 1) = (c.sec.objects.length : Int) - 1 := wrap_i64 (by omega) (by omega)
  have hj : Ans Tryz.prog 98 [.int .i64 d.cap.job, .int .i64 0, .int .i64 ((c.users.length : Int) - 1)] (.bool (knB d.cap.job c.users.length)) := pin_good _ _ _
  have ho : Ans Tryz.prog 98 [.int .i64 d.cap.object, .int .i64 0, .int .i64 ((c.sec.objects.length : Int) - 1)] (.bool (knB d.cap.object c.sec.objects.length)) := pin_good _ _ _
  have hk := pin_good d.kind 0 2
  have hPd : placeB (cc c) d.cap = (knB d.cap.job c.users.length && knB d.cap.object c.sec.objects.length && (decide (d.cap.kind = 1) || decide (d.cap.kind = 0))) := rfl
  have hXd : extraB d = ((!decide (d.kind = 2) && (!decide (d.writer = 0) || !decide (d.reader = 0))) || (decide (d.kind = 0) && !decide (d.source = 0))) := rfl
  rw [formE_eq]
  generalize placeB (cc c) d.cap = P at hPd
  generalize extraB d = X at hXd
  generalize hR : firstE [if (!inB d.kind 0 2) = true then 4 else 0, if (!P) = true then 3 else 0, if has l d.cap = true then 13 else 0, if X = true then 5 else 0] = R
  generalize inB d.kind 0 2 = K at hk hR
  generalize has l d.cap = H at hC hR
  refine good_run [(1000024, [8, 32], [24, 25, 26, 27, 28, 29, 30, 31]), (1000034, [8, 42], [34, 35, 36, 37, 38, 39, 40, 41]), (1000047, [8, 55], [47, 48, 49, 50, 51, 52, 53, 54]), (1000057, [8, 65], [57, 58, 59, 60, 61, 62, 63, 64])] mixed Tryz.func55 rfl Tryz.ntmps55 (rs := [.tmp 6]) rfl (by decide +kernel) (by kernel_rfl) rfl ?_
  rw [startE_eq 80 _ _ _ rfl rfl]
  simp (maxSteps := 10000000) only [go_sem, seval]
  refine call_of (hC) ?_
  simp (maxSteps := 10000000) only [go_sem, seval,  w1, w2]
  refine call_of (hj) ?_
  simp (maxSteps := 10000000) only [go_sem, seval,  w1, w2]
  obtain ⟨P1, hP1⟩ : ∃ B, (knB d.cap.job c.users.length && knB d.cap.object c.sec.objects.length) = B := ⟨_, rfl⟩
  refine join_of P1 ?_ ?_
  · simp (maxSteps := 10000000) only [go_sem, seval]
    refine ifI (fun hq => ?_) fun hq => ?_
    · simp (maxSteps := 10000000) only [go_sem, seval,  hq, w2]
      refine call_of (ho) ?_
      simp (maxSteps := 10000000) only [go_sem, seval]
      rw [← hP1, hq]; rfl
    · simp (maxSteps := 10000000) only [go_sem, seval,  hq]
      rw [← hP1]; simp [hq]
  simp (maxSteps := 10000000) only [go_sem, seval]
  obtain ⟨P2, hP2⟩ : ∃ B, (P1 && (decide (d.cap.kind = 1) || decide (d.cap.kind = 0))) = B := ⟨_, rfl⟩
  refine join_of (P2) ?_ ?_
  · simp (contextual := true) (maxSteps := 10000000) only [go_sem, ifP_eq, seval]
    (repeat' split) <;> simp_all
  simp (maxSteps := 10000000) only [go_sem, seval]
  obtain ⟨X1, hX1⟩ : ∃ B, (!decide (d.kind = 2) && (!decide (d.writer = 0) || !decide (d.reader = 0))) = B := ⟨_, rfl⟩
  refine join_of (X1) ?_ ?_
  · simp (contextual := true) (maxSteps := 10000000) only [go_sem, ifP_eq, seval]
    (repeat' split) <;> simp_all
  simp (maxSteps := 10000000) only [go_sem, seval]
  obtain ⟨X2, hX2⟩ : ∃ B, (X1 || (decide (d.kind = 0) && !decide (d.source = 0))) = B := ⟨_, rfl⟩
  refine join_of (X2) ?_ ?_
  · simp (contextual := true) (maxSteps := 10000000) only [go_sem, ifP_eq, seval]
    (repeat' split) <;> simp_all
  simp (maxSteps := 10000000) only [go_sem, seval]
  have hPP : P = P2 := by rw [hPd, ← hP2, ← hP1]
  have hXX : X = X2 := by rw [hXd, ← hX2, ← hX1]
  rw [hPP, hXX] at hR
  refine call_of (hk) ?_
  simp (maxSteps := 10000000) only [go_sem, seval]
  refine call_of (pcond_good _ _) ?_
  simp (maxSteps := 10000000) only [go_sem, seval]
  refine call_of (pcond_good _ _) ?_
  simp (maxSteps := 10000000) only [go_sem, seval]
  refine call_of (pcond_good _ _) ?_
  simp (maxSteps := 10000000) only [go_sem, seval]
  refine call_of (pcond_good _ _) ?_
  simp (maxSteps := 10000000) only [go_sem, seval]
  refine call_of (pfirst4_good _ _ _ _) ?_
  simp (maxSteps := 10000000) only [go_sem, seval]
  exact hR


/-- The index and the error of derivations. -/
def scanD (C : CC) (l : List Der) : Nat → Nat → Int × Int
  | 0, _ => ((l.length : Int), 0)
  | n + 1, i => if derE C (nth l i) (l.take i) = 0 then scanD C l n (i + 1) else ((i : Int), derE C (nth l i) (l.take i))
def cdE (c : Case) (l : List Der) : Int × Int := if ¬ (caseE c).2 = 0 then (0, (caseE c).2) else if 60 < l.length then (0, 2) else scanD (cc c) l l.length 0
set_option maxHeartbeats 8000000 in
theorem CheckDer_good (c : Case) (hs : Fit c.sec) (hu : c.users.length ≤ 1000) (l : List Der) (hl : l.length ≤ 1000) : Ans Tryz.prog 24 [.agg (encCase c), .sl (l.map encDer)] (.tup [.int .i64 (cdE c l).1, .int .i64 (cdE c l).2]) := by
  have hE := caseErr_good c hs hu
  have hdef : cdE c l = if ¬ (caseE c).2 = 0 then (0, (caseE c).2) else if 60 < l.length then (0, 2) else scanD (cc c) l l.length 0 := rfl
  generalize cdE c l = R at hdef
  refine Classical.byCases (fun he : (caseE c).2 = 0 => ?_) fun he => ?_
  case refine_2 =>
    rw [if_pos he] at hdef
    subst hdef
    generalize (caseE c).2 = e at hE he
    have het := eq_false he
    have hf : ∀ y, Ans Tryz.prog 53 [.sl [[.int .i64 e], [.int .i64 y]]] (.int .i64 e) := fun y => by
      have := pfirst2_good e y
      have q : firstE [e, y] = e := by simp [firstE, he]
      rwa [q] at this
    refine good_run [(5, [4, 5, 7, 8, 9, 24, 25, 26, 27, 28, 29, 30, 31, 32, 33, 34, 35, 36, 37, 38, 39, 40, 41, 42, 43, 44, 45, 46, 47, 48], [8, 8])] mixed Tryz.func24 rfl Tryz.ntmps24 (rs := [.tmp 4, .tmp 5]) rfl (by decide +kernel) (by kernel_rfl) rfl ?_
    rw [startE_eq 51 _ _ _ rfl rfl]
    simp (maxSteps := 10000000) only [go_sem, seval]
    refine call_of (hE) ?_
    simp (maxSteps := 10000000) only [go_sem, seval]
    refine call_of (pcond_good _ _) ?_
    simp (maxSteps := 10000000) only [go_sem, seval]
    refine call_of (hf _) ?_
    simp (maxSteps := 10000000) only [go_sem, seval,  het, not_false_eq_true, decide_true]
  rw [he] at hE
  rw [if_neg (not_not_intro he)] at hdef
  refine Classical.byCases (fun hb : (l.length : Int) > 60 => ?_) fun hb => ?_
  · rw [if_pos (by omega)] at hdef
    subst hdef
    have hbt := eq_true hb
    refine good_run [(5, [4, 5, 7, 8, 9, 24, 25, 26, 27, 28, 29, 30, 31, 32, 33, 34, 35, 36, 37, 38, 39, 40, 41, 42, 43, 44, 45, 46, 47, 48], [8, 8])] mixed Tryz.func24 rfl Tryz.ntmps24 (rs := [.tmp 4, .tmp 5]) rfl (by decide +kernel) (by kernel_rfl) rfl ?_
    rw [startE_eq 51 _ _ _ rfl rfl]
    simp (maxSteps := 10000000) only [go_sem, seval]
    refine call_of (hE) ?_
    simp (maxSteps := 10000000) only [go_sem, seval,  hbt, decide_true]
    refine call_of (condT 2) ?_
    simp (maxSteps := 10000000) only [go_sem, seval]
    refine call_of (first2_0 2) ?_
    simp (maxSteps := 10000000) only [go_sem, seval]
  rw [if_neg (by omega)] at hdef
  have hbt := eq_false hb
  have h := right_of hs he
  have hJ := h.J
  have hO := h.O
  refine good_run [(5, [4, 5, 7, 8, 9, 24, 25, 26, 27, 28, 29, 30, 31, 32, 33, 34, 35, 36, 37, 38, 39, 40, 41, 42, 43, 44, 45, 46, 47, 48], [8, 8])] mixed Tryz.func24 rfl Tryz.ntmps24 (rs := [.tmp 4, .tmp 5]) rfl (by decide +kernel) (by kernel_rfl) rfl ?_
  rw [startE_eq 51 _ _ _ rfl rfl]
  simp (maxSteps := 10000000) only [go_sem, seval]
  refine call_of (hE) ?_
  simp (maxSteps := 10000000) only [go_sem, seval,  hbt, decide_false]
  refine call_of (condF 2) ?_
  simp (maxSteps := 10000000) only [go_sem, seval]
  refine call_of (first2_0 0) ?_
  simp (maxSteps := 10000000) only [go_sem, seval]
  refine loop_by ([4, 5, 7, 8, 9, 24, 25, 26, 27, 28, 29, 30, 31, 32, 33, 34, 35, 36, 37, 38, 39, 40, 41, 42, 43, 44, 45, 46, 47, 48], [8, 8]) (fun i : Nat => [(.s 23, .int .i64 (i : Int)), (.o 8, deadV i)]) (fun i => l.length - i) (fun i => i ≤ l.length ∧ R = scanD (cc c) l (l.length - i) i) 0 rfl ⟨Nat.zero_le _, hdef⟩ ?_ ?_
  · simp (maxSteps := 10000000) only [go_sem, seval]
  rintro c' st' hst i ⟨hi, hf⟩ ih
  simp (maxSteps := 10000000) only [go_sem, seval]
  refine ifI (fun hlt => ?_) fun hlt => ?_
  case refine_2 =>
    subst hst
    have hR : R = ((l.length : Int), 0) := by rw [hf, show l.length - i = 0 by omega]; rfl
    subst hR
    simp (maxSteps := 10000000) only [go_sem, seval,  hlt]
  have hlt' : i < l.length := by omega
  have hstep : scanD (cc c) l (l.length - i) i = if derE (cc c) (nth l i) (l.take i) = 0 then scanD (cc c) l (l.length - (i + 1)) (i + 1) else ((i : Int), derE (cc c) (nth l i) (l.take i)) := by
    rw [show l.length - i = (l.length - (i + 1)) + 1 by omega]; rfl
  rw [hstep] at hf
  have hD : derE (cc c) (nth l i) (l.take i) = if ¬ formE (cc c) (nth l i) (l.take i) = 0 then formE (cc c) (nth l i) (l.take i) else if proveB (cc c) (nth l i) (l.take i) = true then 0 else 42 := rfl
  have htl : (l.take i).length ≤ 1000 := by rw [List.length_take]; omega
  have hF := formErr_good (c := c) (by omega) (by omega) (nth l i) (l.take i) htl
  have hP := fun q => proves_good h (nth l i) (l.take i) htl q
  have hpl : formE (cc c) (nth l i) (l.take i) = 0 → placeB (cc c) (nth l i).cap = true := fun q => by
    unfold formE at q
    cases qq : placeB (cc c) (nth l i).cap with
    | true => rfl
    | false =>
      rw [qq] at q
      cases qk : inB (nth l i).kind 0 2 <;> simp [qk] at q
  generalize derE (cc c) (nth l i) (l.take i) = e at hf hD
  generalize formE (cc c) (nth l i) (l.take i) = f at hF hD hpl
  refine Classical.byCases (fun hf0 : f = 0 => ?_) fun hf0 => ?_
  case refine_2 =>
    have hft := eq_false hf0
    rw [if_pos hf0] at hD
    subst hD
    rw [if_neg hf0] at hf
    subst hf
    simp (maxSteps := 10000000) only [go_sem, seval,  hlt, hlt', hi]
    refine callD_of (hF) ?_
    simp (maxSteps := 10000000) only [go_sem, seval]
    refine ⟨by decide +kernel, ?_⟩
    simp (maxSteps := 10000000) only [go_sem, seval,  hft, not_false_eq_true, decide_true, decide_false]
  subst hf0
  rw [if_neg (by simp)] at hD
  have hP' := hP (hpl rfl)
  cases hb2 : proveB (cc c) (nth l i) (l.take i) with
  | false =>
    rw [hb2] at hP' hD
    rw [if_neg (by decide)] at hD
    subst hD
    rw [if_neg (by decide)] at hf
    subst hf
    simp (maxSteps := 10000000) only [go_sem, seval,  hlt, hlt', hi]
    refine callD_of (hF) ?_
    simp (maxSteps := 10000000) only [go_sem, seval]
    refine ⟨by decide +kernel, ?_⟩
    simp (maxSteps := 10000000) only [go_sem, seval,  hi]
    refine callD_of (hP') ?_
    simp (maxSteps := 10000000) only [go_sem, seval,  Bool.not_false]
    refine callD_of (condT 42) ?_
    simp (maxSteps := 10000000) only [go_sem, seval]
    decide +kernel
  | true =>
    rw [hb2] at hP' hD
    rw [if_pos rfl] at hD
    subst hD
    rw [if_pos rfl] at hf
    simp (maxSteps := 10000000) only [go_sem, seval,  hlt, hlt', hi]
    refine callD_of (hF) ?_
    simp (maxSteps := 10000000) only [go_sem, seval]
    refine ⟨by decide +kernel, ?_⟩
    simp (maxSteps := 10000000) only [go_sem, seval,  hi]
    refine callD_of (hP') ?_
    simp (maxSteps := 10000000) only [go_sem, seval,  Bool.not_true]
    refine callD_of (condF 42) ?_
    simp (maxSteps := 10000000) only [go_sem, seval]
    refine ⟨by decide +kernel, ?_⟩
    refine ih (i + 1) _ ⟨by omega, hf⟩ (by omega) ?_
    simp (maxSteps := 10000000) only [go_sem, seval,  wrap_succ (show i < 9223372036854775807 by omega)]

end Go.Proofs.YtbhgehhmjpipiaaGreat.C12
