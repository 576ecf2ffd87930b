/- Chapter 12: the law of what is never forged. -/
import Derived.Test.YtbhgehhmjpipiaaGreatDoorH3
import Derived.Test.YtbhgehhmjpipiaaGreatDoorT7
import Derived.Test.YtbhgehhmjpipiaaGreatDoorG9
import Derived.Test.YtbhgehhmjpipiaaGreatDoorP37d
set_option linter.unusedSimpArgs false
set_option linter.unusedVariables false
namespace Go.Proofs.YtbhgehhmjpipiaaGreatDoor.C12
open Go Go.Proofs Go.Proofs.YtbhgehhmjpipiaaGreatDoor.Ab Go.Proofs.YtbhgehhmjpipiaaGreatDoor.C10
set_option maxRecDepth 100000
attribute [local congr] ite_ctx
theorem inc_laws (c : Case) : (cc c).IncL := by
 refine ⟨fun a h1 h2 => ?_, fun a b n ha hb hn h1 h2 => ?_, fun a b n ha hb hn h => ?_⟩
 · obtain ⟨x, rfl⟩ := Int.eq_ofNat_of_zero_le h1
   exact (incB_nat (by omega) (by omega)).2 (Nat.and_self x)
 · obtain ⟨x, rfl⟩ := Int.eq_ofNat_of_zero_le ha.1
   obtain ⟨y, rfl⟩ := Int.eq_ofNat_of_zero_le hb.1
   obtain ⟨z, rfl⟩ := Int.eq_ofNat_of_zero_le hn.1
   have e1 := (incB_nat (by omega) (by omega)).1 h1
   have e2 := (incB_nat (by omega) (by omega)).1 h2
   refine (incB_nat (by omega) (by omega)).2 ?_
   rw [← e2, ← Nat.and_assoc, e1]
 · obtain ⟨x, rfl⟩ := Int.eq_ofNat_of_zero_le ha.1
   obtain ⟨y, rfl⟩ := Int.eq_ofNat_of_zero_le hb.1
   obtain ⟨z, rfl⟩ := Int.eq_ofNat_of_zero_le hn.1
   have e1 := (incB_nat (by omega) (by omega)).1 h
   have hb2 := (bits_nat .i64 10 (by decide) (fun n h1 h2 => by rw [IntKind.wrap_i64]; omega) y z (by omega) (by omega)).1
   have hle : y &&& z ≤ y := Nat.and_le_left
   unfold andI
   rw [hb2]
   refine (incB_nat (by omega) (by omega)).2 ?_
   rw [← Nat.and_assoc, e1]
def covB (x y : Cap) : Bool := decide (y.job = x.job) && decide (y.object = x.object) && decide (y.kind = x.kind) && incB y.auth x.auth
set_option maxHeartbeats 8000000 in
theorem covered_good (l : List Cap) (x : Cap) (hl : l.length ≤ 1000000) : Ans Tryz.prog 20 [.sl (l.map encCap), .agg (encCap x)] (.bool (l.any (covB x))) := by
 refine good_run [(2, [4, 6, 7, 8, 9, 10, 11, 12, 13, 14, 15, 16, 17, 18, 19, 20, 21, 22, 23, 24, 25, 26, 27, 28, 29, 30, 31, 32, 33, 34, 35, 36, 37, 38, 39, 40, 41, 42, 43, 44, 45, 46, 47, 48, 49], [])] mixed Tryz.func20 rfl Tryz.ntmps20 (rs := [.tmp 4]) rfl (by decide +kernel) (by kernel_rfl) rfl ?_
 rw [startE_eq 50 _ _ _ rfl rfl]
 simp only [go_sem, seval]
 refine loop_by ([4, 6, 7, 8, 9, 10, 11, 12, 13, 14, 15, 16, 17, 18, 19, 20, 21, 22, 23, 24, 25, 26, 27, 28, 29, 30, 31, 32, 33, 34, 35, 36, 37, 38, 39, 40, 41, 42, 43, 44, 45, 46, 47, 48, 49], []) (fun i : Nat => [(.s 5, .int .i64 (i : Int))]) (fun i => l.length - i) (fun i => i ≤ l.length ∧ ∀ j, j < i → covB x (nth l j) = false) 0 rfl ⟨Nat.zero_le _, fun j hj => absurd hj (Nat.not_lt_zero _)⟩ rfl ?_
 rintro c' st' hst i ⟨hi, hp⟩ ih
 simp only [go_sem, seval]
 refine ifI (fun hlt => ?_) fun hlt => ?_
 case refine_2 =>
  have hn : l.any (covB x) = false := any_no fun j hj => hp j (by omega)
  subst hst
  simp only [go_sem, seval, hlt]
  rw [hn]
  try exact ⟨rfl, rfl⟩
 have hlt' : i < l.length := by omega
 have hI := Includes_good (nth l i).auth x.auth
 have hcv : covB x (nth l i) = (decide ((nth l i).job = x.job) && decide ((nth l i).object = x.object) && decide ((nth l i).kind = x.kind) && incB (nth l i).auth x.auth) := rfl
 have hnx : covB x (nth l i) = false → ∀ j, j < i + 1 → covB x (nth l j) = false := fun hc j hj => by
  rcases Nat.lt_or_ge j i with h | h
  · exact hp j h
  · rw [show j = i by omega]; exact hc
 have hyes : covB x (nth l i) = true → l.any (covB x) = true := fun hc => any_yes hlt' hc
 generalize incB (nth l i).auth x.auth = b at hI hcv
 refine Classical.byCases (fun q1 : (nth l i).job = x.job => ?_) fun q1 => ?_
 case refine_2 =>
  have hn := hnx (by rw [hcv, decide_eq_false q1]; rfl)
  have q1t := eq_false q1
  simp only [go_sem, seval, hlt, hlt', q1t, decide_false]
  refine ⟨by decide +kernel, ?_⟩
  refine ih (i + 1) _ ⟨by omega, hn⟩ (by omega) ?_
  simp only [go_sem, seval, wrap_succ (show i < 9223372036854775807 by omega)]
 have q1t := eq_true q1
 refine Classical.byCases (fun q2 : (nth l i).object = x.object => ?_) fun q2 => ?_
 case refine_2 =>
  have hn := hnx (by rw [hcv, decide_eq_false q2, Bool.and_false]; rfl)
  have q2t := eq_false q2
  simp only [go_sem, seval, hlt, hlt', q1t, q2t, decide_true, decide_false]
  refine ⟨by decide +kernel, ?_⟩
  refine ih (i + 1) _ ⟨by omega, hn⟩ (by omega) ?_
  simp only [go_sem, seval, wrap_succ (show i < 9223372036854775807 by omega)]
 have q2t := eq_true q2
 refine Classical.byCases (fun q3 : (nth l i).kind = x.kind => ?_) fun q3 => ?_
 case refine_2 =>
  have hn := hnx (by rw [hcv, decide_eq_false q3, Bool.and_false, Bool.false_and])
  have q3t := eq_false q3
  simp only [go_sem, seval, hlt, hlt', q1t, q2t, q3t, decide_true, decide_false]
  refine ⟨by decide +kernel, ?_⟩
  refine ih (i + 1) _ ⟨by omega, hn⟩ (by omega) ?_
  simp only [go_sem, seval, wrap_succ (show i < 9223372036854775807 by omega)]
 have q3t := eq_true q3
 have hc : covB x (nth l i) = b := by rw [hcv, decide_eq_true q1, decide_eq_true q2, decide_eq_true q3, Bool.true_and, Bool.true_and, Bool.true_and]
 cases b with
 | false =>
   have hn := hnx hc
   simp only [go_sem, seval, hlt, hlt', q1t, q2t, q3t, decide_true]
   refine callD_of (hI) ?_
   simp only [go_sem, seval]
   refine ⟨by decide +kernel, ?_⟩
   refine ih (i + 1) _ ⟨by omega, hn⟩ (by omega) ?_
   simp only [go_sem, seval, wrap_succ (show i < 9223372036854775807 by omega)]
 | true =>
   have hy := hyes hc
   rw [hy]
   simp only [go_sem, seval, hlt, hlt', q1t, q2t, q3t, decide_true]
   refine callD_of (hI) ?_
   simp only [go_sem, seval]
   decide +kernel
theorem rclosure_all {c : Case} (h : Right c) {x : Cap} (hx : Drv (cc c) x) : x ∈ rClosure (cc c) := by
 have R := rClosure_done h.cfit
 exact (rClosed_of (cc c) R.seed R.stop).all (cc c) hx
set_option maxHeartbeats 8000000 in
theorem PointerUnforged_good (c : Case) (l : List COp) : Ans Tryz.prog 3 [.agg (encCase c), .sl (l.map encCOp)] (.bool true) := by
 have haw := awake_good
 have hfw := few12_good c
 have hfo := fewO_good l
 cases hf : few12 c with
 | false =>
   rw [hf] at hfw
   refine good_run [(13, [4, 88, 89, 90, 91, 92, 93, 94, 95, 96, 97, 98, 99, 100], [])] mixed Tryz.func3 rfl Tryz.ntmps3 (rs := [.tmp 4]) rfl (by decide +kernel) (by kernel_rfl) rfl ?_
   rw [startE_eq 101 _ _ _ rfl rfl]
   simp only [go_sem, seval]
   refine call_of (haw) ?_
   simp only [go_sem, seval, Bool.not_true]
   refine call_of (hfw) ?_
   simp only [go_sem, seval, Bool.not_true, Bool.not_false]
 | true =>
 rw [hf] at hfw
 cases hg : fewO l with
 | false =>
   rw [hg] at hfo
   refine good_run [(13, [4, 88, 89, 90, 91, 92, 93, 94, 95, 96, 97, 98, 99, 100], [])] mixed Tryz.func3 rfl Tryz.ntmps3 (rs := [.tmp 4]) rfl (by decide +kernel) (by kernel_rfl) rfl ?_
   rw [startE_eq 101 _ _ _ rfl rfl]
   simp only [go_sem, seval]
   refine call_of (haw) ?_
   simp only [go_sem, seval, Bool.not_true]
   refine call_of (hfw) ?_
   simp only [go_sem, seval, Bool.not_true, Bool.not_false]
   refine call_of (hfo) ?_
   simp only [go_sem, seval, Bool.not_true, Bool.not_false]
 | true =>
 rw [hg] at hfo
 obtain ⟨hs, hu⟩ := few12_fit hf
 obtain ⟨hl, hd⟩ := fewO_fit hg
 have b1 : l.length * 72 ≤ 140737488355328 := by omega
 have b2 : l.length ≤ maxLen := by unfold maxLen; omega
 have hown := Own12_good c hs (by omega)
 have herr := Err12_good c hs (by omega)
 refine Classical.byCases (fun he : (caseE c).2 = 0 => ?_) fun he => ?_
 case refine_2 =>
  generalize (caseE c).2 = e at herr he
  have het := eq_false he
  refine good_run [(13, [4, 88, 89, 90, 91, 92, 93, 94, 95, 96, 97, 98, 99, 100], [])] mixed Tryz.func3 rfl Tryz.ntmps3 (rs := [.tmp 4]) rfl (by decide +kernel) (by kernel_rfl) rfl ?_
  rw [startE_eq 101 _ _ _ rfl rfl]
  simp only [go_sem, seval]
  refine call_of (haw) ?_
  simp only [go_sem, seval, Bool.not_true]
  refine call_of (hfw) ?_
  simp only [go_sem, seval, Bool.not_true, Bool.not_false]
  refine call_of (hfo) ?_
  simp only [go_sem, seval, Bool.not_true, Bool.not_false]
  refine call_of (herr) ?_
  simp only [go_sem, seval, het, not_false_eq_true, decide_true]
 rw [he] at herr
 refine Classical.byCases (fun h140 : (l.length : Int) > 140 => ?_) fun h140 => ?_
 · have h140t := eq_true h140
   refine good_run [(13, [4, 88, 89, 90, 91, 92, 93, 94, 95, 96, 97, 98, 99, 100], [])] mixed Tryz.func3 rfl Tryz.ntmps3 (rs := [.tmp 4]) rfl (by decide +kernel) (by kernel_rfl) rfl ?_
   rw [startE_eq 101 _ _ _ rfl rfl]
   simp only [go_sem, seval]
   refine call_of (haw) ?_
   simp only [go_sem, seval, Bool.not_true]
   refine call_of (hfw) ?_
   simp only [go_sem, seval, Bool.not_true, Bool.not_false]
   refine call_of (hfo) ?_
   simp only [go_sem, seval, Bool.not_true, Bool.not_false]
   refine call_of (herr) ?_
   simp only [go_sem, seval, h140t, decide_true]
 have h140t := eq_false h140
 have h := right_of hs he
 have hP := Run_good h he hs l (by omega) hd
 have hv := runGo_ok h.aut (start_ok (cc c)) (l := l)
 have hcov : ∀ x ∈ rHeld (runGo (cc c) (startS (cc c)) l), (rClosure (cc c)).any (covB x) = true := fun x hx => by
  rw [rHeld_mem, hv.nj] at hx
  obtain ⟨y, y1, y2, y3, y4, y5⟩ := unf_holds h.aut (inc_laws c) l hx
  refine List.any_eq_true.2 ⟨y, rclosure_all h y1, ?_⟩
  unfold covB
  rw [decide_eq_true y2, decide_eq_true y3, decide_eq_true y4, Bool.true_and, Bool.true_and, Bool.true_and]
  exact y5
 generalize runGo (cc c) (startS (cc c)) l = S at hP hv hcov
 generalize errsGo (cc c) (startS (cc c)) l = E at hP
 have hfS := fewState_good S
 rw [stv_few h hv] at hfS
 have hS := few_small (stv_few h hv)
 have hES := rStateErr_good c S hs (by omega) hS
 have hz := ste_of he hv
 rw [hz] at hES
 have hos := OwnState_good S hS.jobs hS.spaces (fun x hx => (hS.job x hx).2) (fun x hx => (hS.space x hx).2)
 have hH := HeldIn_good hs (by omega) hS hz
 have hJk := jobs_ok h hv
 have hHR := rHeld_good S hJk
 have hlA := held_len hJk
 have hC := Closure_good h he
 have hRl := h.cfit.rlen (rClosure_done h.cfit).ok
 generalize rHeld S = A at hH hHR hlA hcov
 generalize rClosure (cc c) = R at hC hRl hcov
 have hlt0 := eq_false (show ¬ (A.length : Int) < (A.length : Int) by omega)
 have h60 := eq_false (show ¬ (R.length : Int) > 60 by omega)
 refine good_run [(13, [4, 88, 89, 90, 91, 92, 93, 94, 95, 96, 97, 98, 99, 100], [])] mixed Tryz.func3 rfl Tryz.ntmps3 (rs := [.tmp 4]) rfl (by decide +kernel) (by kernel_rfl) rfl ?_
 rw [startE_eq 101 _ _ _ rfl rfl]
 simp only [go_sem, seval]
 refine call_of (haw) ?_
 simp only [go_sem, seval, Bool.not_true]
 refine call_of (hfw) ?_
 simp only [go_sem, seval, Bool.not_true, Bool.not_false]
 refine call_of (hfo) ?_
 simp only [go_sem, seval, Bool.not_true, Bool.not_false]
 refine call_of (herr) ?_
 simp only [go_sem, seval, h140t, decide_false]
 refine call_of (hown) ?_
 simp only [go_sem, seval, b1, b2]
 refine call_of (hP) ?_
 simp only [go_sem, seval]
 refine call_of (hfS) ?_
 simp only [go_sem, seval, Bool.not_true]
 refine call_of (hES) ?_
 simp only [go_sem, seval]
 refine callD_of (hown) ?_
 simp only [go_sem, seval]
 refine callD_of (hos) ?_
 simp only [go_sem, seval]
 refine callD_of (hH) ?_
 simp only [go_sem, seval]
 refine ⟨by decide +kernel, ?_⟩
 refine call_of (hown) ?_
 simp only [go_sem, seval]
 refine call_of (hC) ?_
 simp only [go_sem, seval]
 refine call_of (hHR) ?_
 simp only [go_sem, seval, hlt0, h60, decide_false]
 refine loop_by ([4, 88, 89, 90, 91, 92, 93, 94, 95, 96, 97, 98, 99, 100], []) (fun i : Nat => [(.s 12, .int .i64 (i : Int))]) (fun i => A.length - i) (fun i => i ≤ A.length) 0 rfl (Nat.zero_le _) rfl ?_
 rintro c' st' hst i hi ih
 simp only [go_sem, seval]
 refine ifI (fun hlt => ?_) fun hlt => ?_
 case refine_2 =>
  subst hst
  simp only [go_sem, seval, hlt]
 have hlt' : i < A.length := by omega
 have hCv := covered_good R (nth A i) (by omega)
 rw [hcov _ (nth_mem hlt')] at hCv
 simp only [go_sem, seval, hlt, hlt']
 refine call_of (hCv) ?_
 simp only [go_sem, seval, Bool.not_true]
 refine ih (i + 1) _ (by omega) (by omega) ?_
 simp only [go_sem, seval, wrap_succ (show i < 9223372036854775807 by omega)]
end Go.Proofs.YtbhgehhmjpipiaaGreatDoor.C12
