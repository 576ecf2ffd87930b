/- Chapter 10: the law of audits: the rules. -/
import Derived.Test.YtdmcmfdmnlckdaaF17
namespace Go.Proofs.Ytdmcmfdmnlckdaa.C10
open Go Go.Proofs Go.Proofs.Ytdmcmfdmnlckdaa.Ab
set_option linter.unusedSimpArgs false
attribute [local congr] ite_ctx

structure Rules where
  objects : List Int
  profiles : List Int
  failures : Bool
deriving Inhabited
@[go_sem] def encRules (a : Rules) : List AV := [.sl (a.objects.map encInt), .sl (a.profiles.map encInt), .bool a.failures]
@[go_sem] def encEntry (p : Nat × Bool) : List AV := [.int .i64 (p.1 : Int), .bool p.2]
@[go_sem] theorem rl_encEntry (l : List (Nat × Bool)) : rowsLen 2 (l.map encEntry) = true := rowsLen_map fun _ => rfl

theorem ownRules_good (a : Rules) (h1 : a.objects.length ≤ 1000000) (h2 : a.profiles.length ≤ 1000000) : Ans Try.prog 43 [.agg (encRules a)] (.agg (encRules a)) := by
  refine good_run [] mixed Try.func43 rfl Try.ntmps43 (rs := [.cell 2 83]) rfl (by decide +kernel) (by kernel_rfl) rfl ?_
  rw [startE_eq 12 _ _ _ rfl rfl]
  set_option maxRecDepth 100000 in simp (maxSteps := 10000000) only [go_sem, Nat.reduceAdd, Nat.reduceSub, Nat.reduceMul, Nat.reduceLT, Nat.reduceLeDiff, Nat.reduceEqDiff, Nat.reduceMod, Nat.reduceDiv, Int.reduceNeg, Int.reduceLE, Int.reduceLT, Int.reduceToNat, Int.reduceEq, Int.reduceNe, ↓reduceIte]
  refine callD_of (CopyInts_good _ h1) ?_
  set_option maxRecDepth 100000 in simp (maxSteps := 10000000) only [go_sem, Nat.reduceAdd, Nat.reduceSub, Nat.reduceMul, Nat.reduceLT, Nat.reduceLeDiff, Nat.reduceEqDiff, Nat.reduceMod, Nat.reduceDiv, Int.reduceNeg, Int.reduceLE, Int.reduceLT, Int.reduceToNat, Int.reduceEq, Int.reduceNe, ↓reduceIte]
  refine callD_of (CopyInts_good _ h2) ?_
  set_option maxRecDepth 100000 in simp (maxSteps := 10000000) only [go_sem, Nat.reduceAdd, Nat.reduceSub, Nat.reduceMul, Nat.reduceLT, Nat.reduceLeDiff, Nat.reduceEqDiff, Nat.reduceMod, Nat.reduceDiv, Int.reduceNeg, Int.reduceLE, Int.reduceLT, Int.reduceToNat, Int.reduceEq, Int.reduceNe, ↓reduceIte]
  exact (by decide +kernel)

def rngE (hi : Int) (l : List Int) (i : Nat) : Int := if (!inB (nth l i) 0 hi) = true then 3 else 0
def auditE (s : Sec) (a : Rules) : Int × Int :=
  if ¬ (secE s).2 = 0 then (0, (secE s).2) else if ¬ (a.objects.length : Int) = (s.objects.length : Int) then (0, 6) else if ¬ (a.profiles.length : Int) = (s.profiles.length : Int) then (0, 6)
  else if ¬ (scanI (rngE 3 a.objects) a.objects.length 0).2 = 0 then scanI (rngE 3 a.objects) a.objects.length 0
  else if ¬ (scanI (rngE 2 a.profiles) a.profiles.length 0).2 = 0 then scanI (rngE 2 a.profiles) a.profiles.length 0
  else ((s.objects.length : Int), 0)

theorem first2b_good (a b : Int) : Ans Try.prog 66 [.sl [[.int .i64 a], [.int .i64 b]]] (.int .i64 (firstE [a, b])) := first_good [a, b] (by simp)

set_option maxHeartbeats 8000000 in
theorem CheckAudit_good (s : Sec) (a : Rules) (hs : Fit s) (ho : a.objects.length ≤ 1000000) (hp : a.profiles.length ≤ 1000000) : Ans Try.prog 42 [.agg (encSec s), .agg (encRules a)] (.tup [.int .i64 (auditE s a).1, .int .i64 (auditE s a).2]) := by
  refine Classical.byCases (fun h1 : (secE s).2 = 0 => ?_) fun h1 => ?_
  case refine_2 =>
    have hA : auditE s a = (0, (secE s).2) := by rw [auditE, if_pos h1]
    have hF : ∀ x, firstE [(secE s).2, x] = (secE s).2 := fun x => by rw [firstE, if_neg h1]
    rw [hA]
    refine Classical.byCases (fun hl : (a.objects.length : Int) = (s.objects.length : Int) => ?_) fun hl => ?_
    · skip
      refine good_run [(11, [4, 5, 9, 10, 52, 53, 54, 55, 56, 57, 58, 59, 60], []), (5, [4, 5, 7, 8, 39, 40, 41, 42, 43, 44, 45, 46, 47], [])] mixed Try.func42 rfl Try.ntmps42 (rs := [.tmp 4, .tmp 5]) rfl (by decide +kernel) (by kernel_rfl) rfl ?_
      rw [startE_eq 64 _ _ _ rfl rfl]
      set_option maxRecDepth 100000 in simp (maxSteps := 10000000) only [go_sem, Nat.reduceAdd, Nat.reduceSub, Nat.reduceMul, Nat.reduceLT, Nat.reduceLeDiff, Nat.reduceEqDiff, Nat.reduceMod, Nat.reduceDiv, Int.reduceNeg, Int.reduceLE, Int.reduceLT, Int.reduceToNat, Int.reduceEq, Int.reduceNe, ↓reduceIte]
      refine callD_of (securityErr_good s hs) ?_
      set_option maxRecDepth 100000 in simp (maxSteps := 10000000) only [go_sem, Nat.reduceAdd, Nat.reduceSub, Nat.reduceMul, Nat.reduceLT, Nat.reduceLeDiff, Nat.reduceEqDiff, Nat.reduceMod, Nat.reduceDiv, Int.reduceNeg, Int.reduceLE, Int.reduceLT, Int.reduceToNat, Int.reduceEq, Int.reduceNe, ↓reduceIte,  hl, eq_self, not_true_eq_false, decide_false]
      refine callD_of (cond_good _ _) ?_
      set_option maxRecDepth 100000 in simp (maxSteps := 10000000) only [go_sem, Nat.reduceAdd, Nat.reduceSub, Nat.reduceMul, Nat.reduceLT, Nat.reduceLeDiff, Nat.reduceEqDiff, Nat.reduceMod, Nat.reduceDiv, Int.reduceNeg, Int.reduceLE, Int.reduceLT, Int.reduceToNat, Int.reduceEq, Int.reduceNe, ↓reduceIte]
      refine callD_of (first2b_good _ _) ?_
      set_option maxRecDepth 100000 in simp (maxSteps := 10000000) only [go_sem, Nat.reduceAdd, Nat.reduceSub, Nat.reduceMul, Nat.reduceLT, Nat.reduceLeDiff, Nat.reduceEqDiff, Nat.reduceMod, Nat.reduceDiv, Int.reduceNeg, Int.reduceLE, Int.reduceLT, Int.reduceToNat, Int.reduceEq, Int.reduceNe, ↓reduceIte,  hF, h1, not_false_eq_true]
      exact (by decide +kernel)
    · skip
      refine good_run [(11, [4, 5, 9, 10, 52, 53, 54, 55, 56, 57, 58, 59, 60], []), (5, [4, 5, 7, 8, 39, 40, 41, 42, 43, 44, 45, 46, 47], [])] mixed Try.func42 rfl Try.ntmps42 (rs := [.tmp 4, .tmp 5]) rfl (by decide +kernel) (by kernel_rfl) rfl ?_
      rw [startE_eq 64 _ _ _ rfl rfl]
      set_option maxRecDepth 100000 in simp (maxSteps := 10000000) only [go_sem, Nat.reduceAdd, Nat.reduceSub, Nat.reduceMul, Nat.reduceLT, Nat.reduceLeDiff, Nat.reduceEqDiff, Nat.reduceMod, Nat.reduceDiv, Int.reduceNeg, Int.reduceLE, Int.reduceLT, Int.reduceToNat, Int.reduceEq, Int.reduceNe, ↓reduceIte]
      refine callD_of (securityErr_good s hs) ?_
      set_option maxRecDepth 100000 in simp (maxSteps := 10000000) only [go_sem, Nat.reduceAdd, Nat.reduceSub, Nat.reduceMul, Nat.reduceLT, Nat.reduceLeDiff, Nat.reduceEqDiff, Nat.reduceMod, Nat.reduceDiv, Int.reduceNeg, Int.reduceLE, Int.reduceLT, Int.reduceToNat, Int.reduceEq, Int.reduceNe, ↓reduceIte,  hl, not_false_eq_true, decide_true]
      refine callD_of (cond_good _ _) ?_
      set_option maxRecDepth 100000 in simp (maxSteps := 10000000) only [go_sem, Nat.reduceAdd, Nat.reduceSub, Nat.reduceMul, Nat.reduceLT, Nat.reduceLeDiff, Nat.reduceEqDiff, Nat.reduceMod, Nat.reduceDiv, Int.reduceNeg, Int.reduceLE, Int.reduceLT, Int.reduceToNat, Int.reduceEq, Int.reduceNe, ↓reduceIte]
      refine callD_of (first2b_good _ _) ?_
      set_option maxRecDepth 100000 in simp (maxSteps := 10000000) only [go_sem, Nat.reduceAdd, Nat.reduceSub, Nat.reduceMul, Nat.reduceLT, Nat.reduceLeDiff, Nat.reduceEqDiff, Nat.reduceMod, Nat.reduceDiv, Int.reduceNeg, Int.reduceLE, Int.reduceLT, Int.reduceToNat, Int.reduceEq, Int.reduceNe, ↓reduceIte,  hF, h1, not_false_eq_true]
      exact (by decide +kernel)
  have hF : ∀ x, firstE [0, x] = x := fun x => by
    simp only [firstE, if_true]; split
    · rename_i h; rw [h]
    · rfl
  refine Classical.byCases (fun hl : (a.objects.length : Int) = (s.objects.length : Int) => ?_) fun hl => ?_
  case refine_2 =>
    have hA : auditE s a = (0, 6) := by rw [auditE, if_neg (not_not_intro h1), if_pos hl]
    rw [hA]
    refine good_run [(11, [4, 5, 9, 10, 52, 53, 54, 55, 56, 57, 58, 59, 60], []), (5, [4, 5, 7, 8, 39, 40, 41, 42, 43, 44, 45, 46, 47], [])] mixed Try.func42 rfl Try.ntmps42 (rs := [.tmp 4, .tmp 5]) rfl (by decide +kernel) (by kernel_rfl) rfl ?_
    rw [startE_eq 64 _ _ _ rfl rfl]
    set_option maxRecDepth 100000 in simp (maxSteps := 10000000) only [go_sem, Nat.reduceAdd, Nat.reduceSub, Nat.reduceMul, Nat.reduceLT, Nat.reduceLeDiff, Nat.reduceEqDiff, Nat.reduceMod, Nat.reduceDiv, Int.reduceNeg, Int.reduceLE, Int.reduceLT, Int.reduceToNat, Int.reduceEq, Int.reduceNe, ↓reduceIte]
    refine callD_of (securityErr_good s hs) ?_
    set_option maxRecDepth 100000 in simp (maxSteps := 10000000) only [go_sem, Nat.reduceAdd, Nat.reduceSub, Nat.reduceMul, Nat.reduceLT, Nat.reduceLeDiff, Nat.reduceEqDiff, Nat.reduceMod, Nat.reduceDiv, Int.reduceNeg, Int.reduceLE, Int.reduceLT, Int.reduceToNat, Int.reduceEq, Int.reduceNe, ↓reduceIte,  hl, not_false_eq_true, decide_true, h1]
    refine callD_of (cond_good _ _) ?_
    set_option maxRecDepth 100000 in simp (maxSteps := 10000000) only [go_sem, Nat.reduceAdd, Nat.reduceSub, Nat.reduceMul, Nat.reduceLT, Nat.reduceLeDiff, Nat.reduceEqDiff, Nat.reduceMod, Nat.reduceDiv, Int.reduceNeg, Int.reduceLE, Int.reduceLT, Int.reduceToNat, Int.reduceEq, Int.reduceNe, ↓reduceIte]
    refine callD_of (first2b_good _ _) ?_
    set_option maxRecDepth 100000 in simp (maxSteps := 10000000) only [go_sem, Nat.reduceAdd, Nat.reduceSub, Nat.reduceMul, Nat.reduceLT, Nat.reduceLeDiff, Nat.reduceEqDiff, Nat.reduceMod, Nat.reduceDiv, Int.reduceNeg, Int.reduceLE, Int.reduceLT, Int.reduceToNat, Int.reduceEq, Int.reduceNe, ↓reduceIte,  hF]
    exact (by decide +kernel)
  refine Classical.byCases (fun hl2 : (a.profiles.length : Int) = (s.profiles.length : Int) => ?_) fun hl2 => ?_
  case refine_2 =>
    have hA : auditE s a = (0, 6) := by rw [auditE, if_neg (not_not_intro h1), if_neg (not_not_intro hl), if_pos hl2]
    rw [hA]
    refine good_run [(11, [4, 5, 9, 10, 52, 53, 54, 55, 56, 57, 58, 59, 60], []), (5, [4, 5, 7, 8, 39, 40, 41, 42, 43, 44, 45, 46, 47], [])] mixed Try.func42 rfl Try.ntmps42 (rs := [.tmp 4, .tmp 5]) rfl (by decide +kernel) (by kernel_rfl) rfl ?_
    rw [startE_eq 64 _ _ _ rfl rfl]
    set_option maxRecDepth 100000 in simp (maxSteps := 10000000) only [go_sem, Nat.reduceAdd, Nat.reduceSub, Nat.reduceMul, Nat.reduceLT, Nat.reduceLeDiff, Nat.reduceEqDiff, Nat.reduceMod, Nat.reduceDiv, Int.reduceNeg, Int.reduceLE, Int.reduceLT, Int.reduceToNat, Int.reduceEq, Int.reduceNe, ↓reduceIte]
    refine callD_of (securityErr_good s hs) ?_
    set_option maxRecDepth 100000 in simp (maxSteps := 10000000) only [go_sem, Nat.reduceAdd, Nat.reduceSub, Nat.reduceMul, Nat.reduceLT, Nat.reduceLeDiff, Nat.reduceEqDiff, Nat.reduceMod, Nat.reduceDiv, Int.reduceNeg, Int.reduceLE, Int.reduceLT, Int.reduceToNat, Int.reduceEq, Int.reduceNe, ↓reduceIte,  hl, eq_self, not_true_eq_false, decide_false, h1, hl2, not_false_eq_true, decide_true]
    refine callD_of (cond_good _ _) ?_
    set_option maxRecDepth 100000 in simp (maxSteps := 10000000) only [go_sem, Nat.reduceAdd, Nat.reduceSub, Nat.reduceMul, Nat.reduceLT, Nat.reduceLeDiff, Nat.reduceEqDiff, Nat.reduceMod, Nat.reduceDiv, Int.reduceNeg, Int.reduceLE, Int.reduceLT, Int.reduceToNat, Int.reduceEq, Int.reduceNe, ↓reduceIte]
    refine callD_of (first2b_good _ _) ?_
    set_option maxRecDepth 100000 in simp (maxSteps := 10000000) only [go_sem, Nat.reduceAdd, Nat.reduceSub, Nat.reduceMul, Nat.reduceLT, Nat.reduceLeDiff, Nat.reduceEqDiff, Nat.reduceMod, Nat.reduceDiv, Int.reduceNeg, Int.reduceLE, Int.reduceLT, Int.reduceToNat, Int.reduceEq, Int.reduceNe, ↓reduceIte,  hF]
    exact (by decide +kernel)
  have hA : auditE s a = if ¬ (scanI (rngE 3 a.objects) a.objects.length 0).2 = 0 then scanI (rngE 3 a.objects) a.objects.length 0
      else if ¬ (scanI (rngE 2 a.profiles) a.profiles.length 0).2 = 0 then scanI (rngE 2 a.profiles) a.profiles.length 0 else ((s.objects.length : Int), 0) := by
    rw [auditE, if_neg (not_not_intro h1), if_neg (not_not_intro hl), if_neg (not_not_intro hl2)]
  refine good_run [(11, [4, 5, 9, 10, 52, 53, 54, 55, 56, 57, 58, 59, 60], []), (5, [4, 5, 7, 8, 39, 40, 41, 42, 43, 44, 45, 46, 47], [])] mixed Try.func42 rfl Try.ntmps42 (rs := [.tmp 4, .tmp 5]) rfl (by decide +kernel) (by kernel_rfl) rfl ?_
  rw [startE_eq 64 _ _ _ rfl rfl]
  set_option maxRecDepth 100000 in simp (maxSteps := 10000000) only [go_sem, Nat.reduceAdd, Nat.reduceSub, Nat.reduceMul, Nat.reduceLT, Nat.reduceLeDiff, Nat.reduceEqDiff, Nat.reduceMod, Nat.reduceDiv, Int.reduceNeg, Int.reduceLE, Int.reduceLT, Int.reduceToNat, Int.reduceEq, Int.reduceNe, ↓reduceIte]
  refine callD_of (securityErr_good s hs) ?_
  set_option maxRecDepth 100000 in simp (maxSteps := 10000000) only [go_sem, Nat.reduceAdd, Nat.reduceSub, Nat.reduceMul, Nat.reduceLT, Nat.reduceLeDiff, Nat.reduceEqDiff, Nat.reduceMod, Nat.reduceDiv, Int.reduceNeg, Int.reduceLE, Int.reduceLT, Int.reduceToNat, Int.reduceEq, Int.reduceNe, ↓reduceIte,  hl, eq_self, not_true_eq_false, decide_false, h1, hl2]
  refine callD_of (cond_good _ _) ?_
  set_option maxRecDepth 100000 in simp (maxSteps := 10000000) only [go_sem, Nat.reduceAdd, Nat.reduceSub, Nat.reduceMul, Nat.reduceLT, Nat.reduceLeDiff, Nat.reduceEqDiff, Nat.reduceMod, Nat.reduceDiv, Int.reduceNeg, Int.reduceLE, Int.reduceLT, Int.reduceToNat, Int.reduceEq, Int.reduceNe, ↓reduceIte]
  refine callD_of (first2b_good _ _) ?_
  set_option maxRecDepth 100000 in simp (maxSteps := 10000000) only [go_sem, Nat.reduceAdd, Nat.reduceSub, Nat.reduceMul, Nat.reduceLT, Nat.reduceLeDiff, Nat.reduceEqDiff, Nat.reduceMod, Nat.reduceDiv, Int.reduceNeg, Int.reduceLE, Int.reduceLT, Int.reduceToNat, Int.reduceEq, Int.reduceNe, ↓reduceIte,  hF, eq_self, not_true_eq_false]
  refine ⟨by decide +kernel, ?_⟩
  refine loop_by ([4, 5, 7, 8, 39, 40, 41, 42, 43, 44, 45, 46, 47], []) (fun i : Nat => [(.s 38, .int .i64 (i : Int))]) (fun i => a.objects.length - i) (fun i => i ≤ a.objects.length ∧ scanI (rngE 3 a.objects) a.objects.length 0 = scanI (rngE 3 a.objects) (a.objects.length - i) i) 0 rfl ⟨Nat.zero_le _, rfl⟩ ?_ ?_
  · set_option maxRecDepth 100000 in simp (maxSteps := 10000000) only [go_sem, Nat.reduceAdd, Nat.reduceSub, Nat.reduceMul, Nat.reduceLT, Nat.reduceLeDiff, Nat.reduceEqDiff, Nat.reduceMod, Nat.reduceDiv, Int.reduceNeg, Int.reduceLE, Int.reduceLT, Int.reduceToNat, Int.reduceEq, Int.reduceNe, ↓reduceIte,  hl]
  rintro c' st' hst i ⟨hi, hf⟩ ih
  set_option maxRecDepth 100000 in simp (maxSteps := 10000000) only [go_sem, Nat.reduceAdd, Nat.reduceSub, Nat.reduceMul, Nat.reduceLT, Nat.reduceLeDiff, Nat.reduceEqDiff, Nat.reduceMod, Nat.reduceDiv, Int.reduceNeg, Int.reduceLE, Int.reduceLT, Int.reduceToNat, Int.reduceEq, Int.reduceNe, ↓reduceIte]
  refine ifI (fun hlt => ?_) fun hlt => ?_
  · set_option maxRecDepth 100000 in simp (maxSteps := 10000000) only [go_sem, Nat.reduceAdd, Nat.reduceSub, Nat.reduceMul, Nat.reduceLT, Nat.reduceLeDiff, Nat.reduceEqDiff, Nat.reduceMod, Nat.reduceDiv, Int.reduceNeg, Int.reduceLE, Int.reduceLT, Int.reduceToNat, Int.reduceEq, Int.reduceNe, ↓reduceIte,  hlt]
    refine call_of (in_good _ _ _) ?_
    set_option maxRecDepth 100000 in simp (maxSteps := 10000000) only [go_sem, Nat.reduceAdd, Nat.reduceSub, Nat.reduceMul, Nat.reduceLT, Nat.reduceLeDiff, Nat.reduceEqDiff, Nat.reduceMod, Nat.reduceDiv, Int.reduceNeg, Int.reduceLE, Int.reduceLT, Int.reduceToNat, Int.reduceEq, Int.reduceNe, ↓reduceIte]
    refine ifI (fun h2 => ?_) fun h2 => ?_
    · set_option maxRecDepth 100000 in simp (maxSteps := 10000000) only [go_sem, Nat.reduceAdd, Nat.reduceSub, Nat.reduceMul, Nat.reduceLT, Nat.reduceLeDiff, Nat.reduceEqDiff, Nat.reduceMod, Nat.reduceDiv, Int.reduceNeg, Int.reduceLE, Int.reduceLT, Int.reduceToNat, Int.reduceEq, Int.reduceNe, ↓reduceIte]
      have hr := hf.trans (scanI_hit hlt (show rngE 3 a.objects i = 3 by rw [rngE, if_pos (by simpa using h2)]) (by decide))
      rw [hA, hr]; exact ⟨rfl, rfl⟩
    · set_option maxRecDepth 100000 in simp (maxSteps := 10000000) only [go_sem, Nat.reduceAdd, Nat.reduceSub, Nat.reduceMul, Nat.reduceLT, Nat.reduceLeDiff, Nat.reduceEqDiff, Nat.reduceMod, Nat.reduceDiv, Int.reduceNeg, Int.reduceLE, Int.reduceLT, Int.reduceToNat, Int.reduceEq, Int.reduceNe, ↓reduceIte]
      refine ih (i + 1) _ ⟨by omega, hf.trans (scanI_skip hlt (by rw [rngE, if_neg (by simpa using h2)]))⟩ (by omega) ?_
      set_option maxRecDepth 100000 in simp (maxSteps := 10000000) only [go_sem, Nat.reduceAdd, Nat.reduceSub, Nat.reduceMul, Nat.reduceLT, Nat.reduceLeDiff, Nat.reduceEqDiff, Nat.reduceMod, Nat.reduceDiv, Int.reduceNeg, Int.reduceLE, Int.reduceLT, Int.reduceToNat, Int.reduceEq, Int.reduceNe, ↓reduceIte,  wrap_succ (show i < 9223372036854775807 by omega)]
  subst hst
  rw [scanI_end (by omega)] at hf
  have hA2 : auditE s a = if ¬ (scanI (rngE 2 a.profiles) a.profiles.length 0).2 = 0 then scanI (rngE 2 a.profiles) a.profiles.length 0 else ((s.objects.length : Int), 0) := by rw [hA, hf]; rfl
  clear hf ih hA
  set_option maxRecDepth 100000 in simp (maxSteps := 10000000) only [go_sem, Nat.reduceAdd, Nat.reduceSub, Nat.reduceMul, Nat.reduceLT, Nat.reduceLeDiff, Nat.reduceEqDiff, Nat.reduceMod, Nat.reduceDiv, Int.reduceNeg, Int.reduceLE, Int.reduceLT, Int.reduceToNat, Int.reduceEq, Int.reduceNe, ↓reduceIte]
  refine loop_by ([4, 5, 9, 10, 52, 53, 54, 55, 56, 57, 58, 59, 60], []) (fun i : Nat => [(.s 51, .int .i64 (i : Int))]) (fun i => a.profiles.length - i) (fun i => i ≤ a.profiles.length ∧ scanI (rngE 2 a.profiles) a.profiles.length 0 = scanI (rngE 2 a.profiles) (a.profiles.length - i) i) 0 rfl ⟨Nat.zero_le _, rfl⟩ rfl ?_
  rintro c' st' hst i ⟨hi, hf⟩ ih
  set_option maxRecDepth 100000 in simp (maxSteps := 10000000) only [go_sem, Nat.reduceAdd, Nat.reduceSub, Nat.reduceMul, Nat.reduceLT, Nat.reduceLeDiff, Nat.reduceEqDiff, Nat.reduceMod, Nat.reduceDiv, Int.reduceNeg, Int.reduceLE, Int.reduceLT, Int.reduceToNat, Int.reduceEq, Int.reduceNe, ↓reduceIte]
  refine ifI (fun hlt => ?_) fun hlt => ?_
  · set_option maxRecDepth 100000 in simp (maxSteps := 10000000) only [go_sem, Nat.reduceAdd, Nat.reduceSub, Nat.reduceMul, Nat.reduceLT, Nat.reduceLeDiff, Nat.reduceEqDiff, Nat.reduceMod, Nat.reduceDiv, Int.reduceNeg, Int.reduceLE, Int.reduceLT, Int.reduceToNat, Int.reduceEq, Int.reduceNe, ↓reduceIte,  hlt]
    refine call_of (in_good _ _ _) ?_
    set_option maxRecDepth 100000 in simp (maxSteps := 10000000) only [go_sem, Nat.reduceAdd, Nat.reduceSub, Nat.reduceMul, Nat.reduceLT, Nat.reduceLeDiff, Nat.reduceEqDiff, Nat.reduceMod, Nat.reduceDiv, Int.reduceNeg, Int.reduceLE, Int.reduceLT, Int.reduceToNat, Int.reduceEq, Int.reduceNe, ↓reduceIte]
    refine ifI (fun h2 => ?_) fun h2 => ?_
    · set_option maxRecDepth 100000 in simp (maxSteps := 10000000) only [go_sem, Nat.reduceAdd, Nat.reduceSub, Nat.reduceMul, Nat.reduceLT, Nat.reduceLeDiff, Nat.reduceEqDiff, Nat.reduceMod, Nat.reduceDiv, Int.reduceNeg, Int.reduceLE, Int.reduceLT, Int.reduceToNat, Int.reduceEq, Int.reduceNe, ↓reduceIte]
      have hr := hf.trans (scanI_hit hlt (show rngE 2 a.profiles i = 3 by rw [rngE, if_pos (by simpa using h2)]) (by decide))
      rw [hA2, hr]; exact ⟨rfl, rfl⟩
    · set_option maxRecDepth 100000 in simp (maxSteps := 10000000) only [go_sem, Nat.reduceAdd, Nat.reduceSub, Nat.reduceMul, Nat.reduceLT, Nat.reduceLeDiff, Nat.reduceEqDiff, Nat.reduceMod, Nat.reduceDiv, Int.reduceNeg, Int.reduceLE, Int.reduceLT, Int.reduceToNat, Int.reduceEq, Int.reduceNe, ↓reduceIte]
      refine ih (i + 1) _ ⟨by omega, hf.trans (scanI_skip hlt (by rw [rngE, if_neg (by simpa using h2)]))⟩ (by omega) ?_
      set_option maxRecDepth 100000 in simp (maxSteps := 10000000) only [go_sem, Nat.reduceAdd, Nat.reduceSub, Nat.reduceMul, Nat.reduceLT, Nat.reduceLeDiff, Nat.reduceEqDiff, Nat.reduceMod, Nat.reduceDiv, Int.reduceNeg, Int.reduceLE, Int.reduceLT, Int.reduceToNat, Int.reduceEq, Int.reduceNe, ↓reduceIte,  wrap_succ (show i < 9223372036854775807 by omega)]
  subst hst
  rw [scanI_end (by omega)] at hf
  set_option maxRecDepth 100000 in simp (maxSteps := 10000000) only [go_sem, Nat.reduceAdd, Nat.reduceSub, Nat.reduceMul, Nat.reduceLT, Nat.reduceLeDiff, Nat.reduceEqDiff, Nat.reduceMod, Nat.reduceDiv, Int.reduceNeg, Int.reduceLE, Int.reduceLT, Int.reduceToNat, Int.reduceEq, Int.reduceNe, ↓reduceIte]
  rw [hA2, hf]; exact ⟨rfl, rfl⟩

set_option maxHeartbeats 8000000 in
theorem AuditCheck_good (s : Sec) (a : Rules) (hs : Fit s) (ho : a.objects.length ≤ 1000000) (hp : a.profiles.length ≤ 1000000) : Ans Try.prog 44 [.agg (encSec s), .agg (encRules a)] (.tup [.int .i64 (auditE s a).1, .int .i64 (auditE s a).2]) := by
  refine good_run [(12, [4, 5, 45, 46, 47, 48, 49, 50, 51, 52, 53, 54, 55, 56, 57, 58, 59], []), (7, [4, 5, 30, 31, 32, 33, 34, 35, 36, 37, 38, 39, 40, 41, 42, 43, 44], [])] mixed Try.func44 rfl Try.ntmps44 (rs := [.tmp 4, .tmp 5]) rfl (by decide +kernel) (by kernel_rfl) rfl ?_
  rw [startE_eq 63 _ _ _ rfl rfl]
  set_option maxRecDepth 100000 in simp (maxSteps := 10000000) only [go_sem, Nat.reduceAdd, Nat.reduceSub, Nat.reduceMul, Nat.reduceLT, Nat.reduceLeDiff, Nat.reduceEqDiff, Nat.reduceMod, Nat.reduceDiv, Int.reduceNeg, Int.reduceLE, Int.reduceLT, Int.reduceToNat, Int.reduceEq, Int.reduceNe, ↓reduceIte]
  refine call_of (Err_good s hs) ?_
  set_option maxRecDepth 100000 in simp (maxSteps := 10000000) only [go_sem, Nat.reduceAdd, Nat.reduceSub, Nat.reduceMul, Nat.reduceLT, Nat.reduceLeDiff, Nat.reduceEqDiff, Nat.reduceMod, Nat.reduceDiv, Int.reduceNeg, Int.reduceLE, Int.reduceLT, Int.reduceToNat, Int.reduceEq, Int.reduceNe, ↓reduceIte]
  refine ifI (fun h1 => ?_) fun h1 => ?_
  · have hA : auditE s a = (0, (secE s).2) := by rw [auditE, if_pos h1]
    set_option maxRecDepth 100000 in simp (maxSteps := 10000000) only [go_sem, Nat.reduceAdd, Nat.reduceSub, Nat.reduceMul, Nat.reduceLT, Nat.reduceLeDiff, Nat.reduceEqDiff, Nat.reduceMod, Nat.reduceDiv, Int.reduceNeg, Int.reduceLE, Int.reduceLT, Int.reduceToNat, Int.reduceEq, Int.reduceNe, ↓reduceIte,  hA]
  refine Classical.byCases (fun hl : (a.objects.length : Int) = (s.objects.length : Int) => ?_) fun hl => ?_
  case refine_2 =>
    have hA : auditE s a = (0, 6) := by rw [auditE, if_neg h1, if_pos hl]
    set_option maxRecDepth 100000 in simp (maxSteps := 10000000) only [go_sem, Nat.reduceAdd, Nat.reduceSub, Nat.reduceMul, Nat.reduceLT, Nat.reduceLeDiff, Nat.reduceEqDiff, Nat.reduceMod, Nat.reduceDiv, Int.reduceNeg, Int.reduceLE, Int.reduceLT, Int.reduceToNat, Int.reduceEq, Int.reduceNe, ↓reduceIte,  hl, not_false_eq_true, decide_true, hA]
  refine Classical.byCases (fun hl2 : (a.profiles.length : Int) = (s.profiles.length : Int) => ?_) fun hl2 => ?_
  case refine_2 =>
    have hA : auditE s a = (0, 6) := by rw [auditE, if_neg h1, if_neg (not_not_intro hl), if_pos hl2]
    set_option maxRecDepth 100000 in simp (maxSteps := 10000000) only [go_sem, Nat.reduceAdd, Nat.reduceSub, Nat.reduceMul, Nat.reduceLT, Nat.reduceLeDiff, Nat.reduceEqDiff, Nat.reduceMod, Nat.reduceDiv, Int.reduceNeg, Int.reduceLE, Int.reduceLT, Int.reduceToNat, Int.reduceEq, Int.reduceNe, ↓reduceIte,  hl, eq_self, not_true_eq_false, decide_false, hl2, not_false_eq_true, decide_true, hA]
  have hA : auditE s a = if ¬ (scanI (rngE 3 a.objects) a.objects.length 0).2 = 0 then scanI (rngE 3 a.objects) a.objects.length 0
      else if ¬ (scanI (rngE 2 a.profiles) a.profiles.length 0).2 = 0 then scanI (rngE 2 a.profiles) a.profiles.length 0 else ((s.objects.length : Int), 0) := by
    rw [auditE, if_neg h1, if_neg (not_not_intro hl), if_neg (not_not_intro hl2)]
  set_option maxRecDepth 100000 in simp (maxSteps := 10000000) only [go_sem, Nat.reduceAdd, Nat.reduceSub, Nat.reduceMul, Nat.reduceLT, Nat.reduceLeDiff, Nat.reduceEqDiff, Nat.reduceMod, Nat.reduceDiv, Int.reduceNeg, Int.reduceLE, Int.reduceLT, Int.reduceToNat, Int.reduceEq, Int.reduceNe, ↓reduceIte,  hl, eq_self, not_true_eq_false, decide_false, hl2]
  refine loop_by ([4, 5, 30, 31, 32, 33, 34, 35, 36, 37, 38, 39, 40, 41, 42, 43, 44], []) (fun i : Nat => [(.s 7, .int .i64 (i : Int))]) (fun i => a.objects.length - i) (fun i => i ≤ a.objects.length ∧ scanI (rngE 3 a.objects) a.objects.length 0 = scanI (rngE 3 a.objects) (a.objects.length - i) i) 0 rfl ⟨Nat.zero_le _, rfl⟩ rfl ?_
  rintro c' st' hst i ⟨hi, hf⟩ ih
  set_option maxRecDepth 100000 in simp (maxSteps := 10000000) only [go_sem, Nat.reduceAdd, Nat.reduceSub, Nat.reduceMul, Nat.reduceLT, Nat.reduceLeDiff, Nat.reduceEqDiff, Nat.reduceMod, Nat.reduceDiv, Int.reduceNeg, Int.reduceLE, Int.reduceLT, Int.reduceToNat, Int.reduceEq, Int.reduceNe, ↓reduceIte]
  refine ifI (fun hlt => ?_) fun hlt => ?_
  · set_option maxRecDepth 100000 in simp (maxSteps := 10000000) only [go_sem, Nat.reduceAdd, Nat.reduceSub, Nat.reduceMul, Nat.reduceLT, Nat.reduceLeDiff, Nat.reduceEqDiff, Nat.reduceMod, Nat.reduceDiv, Int.reduceNeg, Int.reduceLE, Int.reduceLT, Int.reduceToNat, Int.reduceEq, Int.reduceNe, ↓reduceIte,  hlt]
    refine call_of (Within_good _ _ _) ?_
    set_option maxRecDepth 100000 in simp (maxSteps := 10000000) only [go_sem, Nat.reduceAdd, Nat.reduceSub, Nat.reduceMul, Nat.reduceLT, Nat.reduceLeDiff, Nat.reduceEqDiff, Nat.reduceMod, Nat.reduceDiv, Int.reduceNeg, Int.reduceLE, Int.reduceLT, Int.reduceToNat, Int.reduceEq, Int.reduceNe, ↓reduceIte]
    refine ifI (fun h2 => ?_) fun h2 => ?_
    · set_option maxRecDepth 100000 in simp (maxSteps := 10000000) only [go_sem, Nat.reduceAdd, Nat.reduceSub, Nat.reduceMul, Nat.reduceLT, Nat.reduceLeDiff, Nat.reduceEqDiff, Nat.reduceMod, Nat.reduceDiv, Int.reduceNeg, Int.reduceLE, Int.reduceLT, Int.reduceToNat, Int.reduceEq, Int.reduceNe, ↓reduceIte]
      have hr := hf.trans (scanI_hit hlt (show rngE 3 a.objects i = 3 by rw [rngE, if_pos (by simpa using h2)]) (by decide))
      rw [hA, hr]; exact ⟨rfl, rfl⟩
    · set_option maxRecDepth 100000 in simp (maxSteps := 10000000) only [go_sem, Nat.reduceAdd, Nat.reduceSub, Nat.reduceMul, Nat.reduceLT, Nat.reduceLeDiff, Nat.reduceEqDiff, Nat.reduceMod, Nat.reduceDiv, Int.reduceNeg, Int.reduceLE, Int.reduceLT, Int.reduceToNat, Int.reduceEq, Int.reduceNe, ↓reduceIte]
      refine ih (i + 1) _ ⟨by omega, hf.trans (scanI_skip hlt (by rw [rngE, if_neg (by simpa using h2)]))⟩ (by omega) ?_
      set_option maxRecDepth 100000 in simp (maxSteps := 10000000) only [go_sem, Nat.reduceAdd, Nat.reduceSub, Nat.reduceMul, Nat.reduceLT, Nat.reduceLeDiff, Nat.reduceEqDiff, Nat.reduceMod, Nat.reduceDiv, Int.reduceNeg, Int.reduceLE, Int.reduceLT, Int.reduceToNat, Int.reduceEq, Int.reduceNe, ↓reduceIte,  wrap_succ (show i < 9223372036854775807 by omega)]
  subst hst
  rw [scanI_end (by omega)] at hf
  have hA2 : auditE s a = if ¬ (scanI (rngE 2 a.profiles) a.profiles.length 0).2 = 0 then scanI (rngE 2 a.profiles) a.profiles.length 0 else ((s.objects.length : Int), 0) := by rw [hA, hf]; rfl
  clear hf ih hA
  set_option maxRecDepth 100000 in simp (maxSteps := 10000000) only [go_sem, Nat.reduceAdd, Nat.reduceSub, Nat.reduceMul, Nat.reduceLT, Nat.reduceLeDiff, Nat.reduceEqDiff, Nat.reduceMod, Nat.reduceDiv, Int.reduceNeg, Int.reduceLE, Int.reduceLT, Int.reduceToNat, Int.reduceEq, Int.reduceNe, ↓reduceIte]
  refine loop_by ([4, 5, 45, 46, 47, 48, 49, 50, 51, 52, 53, 54, 55, 56, 57, 58, 59], []) (fun i : Nat => [(.s 8, .int .i64 (i : Int))]) (fun i => a.profiles.length - i) (fun i => i ≤ a.profiles.length ∧ scanI (rngE 2 a.profiles) a.profiles.length 0 = scanI (rngE 2 a.profiles) (a.profiles.length - i) i) 0 rfl ⟨Nat.zero_le _, rfl⟩ rfl ?_
  rintro c' st' hst i ⟨hi, hf⟩ ih
  set_option maxRecDepth 100000 in simp (maxSteps := 10000000) only [go_sem, Nat.reduceAdd, Nat.reduceSub, Nat.reduceMul, Nat.reduceLT, Nat.reduceLeDiff, Nat.reduceEqDiff, Nat.reduceMod, Nat.reduceDiv, Int.reduceNeg, Int.reduceLE, Int.reduceLT, Int.reduceToNat, Int.reduceEq, Int.reduceNe, ↓reduceIte]
  refine ifI (fun hlt => ?_) fun hlt => ?_
  · set_option maxRecDepth 100000 in simp (maxSteps := 10000000) only [go_sem, Nat.reduceAdd, Nat.reduceSub, Nat.reduceMul, Nat.reduceLT, Nat.reduceLeDiff, Nat.reduceEqDiff, Nat.reduceMod, Nat.reduceDiv, Int.reduceNeg, Int.reduceLE, Int.reduceLT, Int.reduceToNat, Int.reduceEq, Int.reduceNe, ↓reduceIte,  hlt]
    refine call_of (Within_good _ _ _) ?_
    set_option maxRecDepth 100000 in simp (maxSteps := 10000000) only [go_sem, Nat.reduceAdd, Nat.reduceSub, Nat.reduceMul, Nat.reduceLT, Nat.reduceLeDiff, Nat.reduceEqDiff, Nat.reduceMod, Nat.reduceDiv, Int.reduceNeg, Int.reduceLE, Int.reduceLT, Int.reduceToNat, Int.reduceEq, Int.reduceNe, ↓reduceIte]
    refine ifI (fun h2 => ?_) fun h2 => ?_
    · set_option maxRecDepth 100000 in simp (maxSteps := 10000000) only [go_sem, Nat.reduceAdd, Nat.reduceSub, Nat.reduceMul, Nat.reduceLT, Nat.reduceLeDiff, Nat.reduceEqDiff, Nat.reduceMod, Nat.reduceDiv, Int.reduceNeg, Int.reduceLE, Int.reduceLT, Int.reduceToNat, Int.reduceEq, Int.reduceNe, ↓reduceIte]
      have hr := hf.trans (scanI_hit hlt (show rngE 2 a.profiles i = 3 by rw [rngE, if_pos (by simpa using h2)]) (by decide))
      rw [hA2, hr]; exact ⟨rfl, rfl⟩
    · set_option maxRecDepth 100000 in simp (maxSteps := 10000000) only [go_sem, Nat.reduceAdd, Nat.reduceSub, Nat.reduceMul, Nat.reduceLT, Nat.reduceLeDiff, Nat.reduceEqDiff, Nat.reduceMod, Nat.reduceDiv, Int.reduceNeg, Int.reduceLE, Int.reduceLT, Int.reduceToNat, Int.reduceEq, Int.reduceNe, ↓reduceIte]
      refine ih (i + 1) _ ⟨by omega, hf.trans (scanI_skip hlt (by rw [rngE, if_neg (by simpa using h2)]))⟩ (by omega) ?_
      set_option maxRecDepth 100000 in simp (maxSteps := 10000000) only [go_sem, Nat.reduceAdd, Nat.reduceSub, Nat.reduceMul, Nat.reduceLT, Nat.reduceLeDiff, Nat.reduceEqDiff, Nat.reduceMod, Nat.reduceDiv, Int.reduceNeg, Int.reduceLE, Int.reduceLT, Int.reduceToNat, Int.reduceEq, Int.reduceNe, ↓reduceIte,  wrap_succ (show i < 9223372036854775807 by omega)]
  subst hst
  rw [scanI_end (by omega)] at hf
  set_option maxRecDepth 100000 in simp (maxSteps := 10000000) only [go_sem, Nat.reduceAdd, Nat.reduceSub, Nat.reduceMul, Nat.reduceLT, Nat.reduceLeDiff, Nat.reduceEqDiff, Nat.reduceMod, Nat.reduceDiv, Int.reduceNeg, Int.reduceLE, Int.reduceLT, Int.reduceToNat, Int.reduceEq, Int.reduceNe, ↓reduceIte]
  rw [hA2, hf, hl]; exact ⟨rfl, rfl⟩

/-! ### The accesses -/
def auditErr (s : Sec) (l : List Req) : Int := if (30 : Int) < (l.length : Int) then 2 else scan (fun i => reqE s (nth l i)) l.length 0
def ruleOf (s : Sec) (a : Rules) (r : Req) : Int := if nth a.objects r.object.toNat = 3 then nth a.profiles (profIx s r.user).toNat else nth a.objects r.object.toNat
def audB (s : Sec) (a : Rules) (r : Req) (ok : Bool) : Bool := (!ok && a.failures) || (decide (ruleOf s a r = 2) || (decide (ruleOf s a r = 1) && !incB 545 r.needed))
def audOf (s : Sec) (a : Rules) (l : List Req) : Nat → List (Nat × Bool)
  | 0 => []
  | k + 1 => audOf s a l k ++ (if audB s a (nth l k) (accP s (nth l k)).2 = true then [(k, (accP s (nth l k)).2)] else [])
theorem audOf_len (s : Sec) (a : Rules) (l : List Req) : ∀ k, (audOf s a l k).length ≤ k
  | 0 => Nat.le_refl _
  | k + 1 => by
    have := audOf_len s a l k
    rw [audOf, List.length_append]
    split <;> simp <;> omega

theorem map_getD_int {l : List Int} {i : Nat} (h : i < l.length) : (l.map encInt).getD i [] = [.int .i64 (nth l i)] := map_getD h

set_option maxHeartbeats 4000000 in
theorem isAudited_good (s : Sec) (a : Rules) (r : Req) (ok : Bool) (hs : Fit s) (hl : a.objects.length = s.objects.length) (hl2 : a.profiles.length = s.profiles.length) (hu : 0 ≤ profIx s r.user)
    (hix : 0 ≤ r.object ∧ r.object < (s.objects.length : Int) ∧ r.object.toNat < s.objects.length) : Ans Try.prog 85 [.agg (encSec s), .agg (encRules a), .agg (encReq r), .bool ok] (.bool (audB s a r ok)) := by
  have hp0 : 0 ≤ findIx (fun p => decide (p.name = r.user)) s.profiles 0 := hu
  have hp1 : findIx (fun p => decide (p.name = r.user)) s.profiles 0 < (a.profiles.length : Int) := by rw [hl2]; exact (ix_facts hp0).1
  have hp2 : (findIx (fun p => decide (p.name = r.user)) s.profiles 0).toNat < a.profiles.length := by rw [hl2]; exact (ix_facts hp0).2
  have i1 := hix.1
  have i2 : r.object < (a.objects.length : Int) := by rw [hl]; exact hix.2.1
  have i3 : r.object.toNat < a.objects.length := by rw [hl]; exact hix.2.2
  have hix' : nth a.profiles (findIx (fun p => decide (p.name = r.user)) s.profiles 0).toNat = nth a.profiles (profIx s r.user).toNat := rfl
  refine good_run [] mixed Try.func85 rfl Try.ntmps85 (rs := [.tmp 8]) rfl (by decide +kernel) (by kernel_rfl) rfl ?_
  rw [startE_eq 48 _ _ _ rfl rfl]
  set_option maxRecDepth 100000 in simp (maxSteps := 10000000) only [go_sem, Nat.reduceAdd, Nat.reduceSub, Nat.reduceMul, Nat.reduceLT, Nat.reduceLeDiff, Nat.reduceEqDiff, Nat.reduceMod, Nat.reduceDiv, Int.reduceNeg, Int.reduceLE, Int.reduceLT, Int.reduceToNat, Int.reduceEq, Int.reduceNe, ↓reduceIte,  i1, i2, i3]
  refine ifI (fun h1 => ?_) fun h1 => ?_
  · have hR : ruleOf s a r = nth a.profiles (profIx s r.user).toNat := by rw [ruleOf, if_pos h1]
    set_option maxRecDepth 100000 in simp (maxSteps := 10000000) only [go_sem, Nat.reduceAdd, Nat.reduceSub, Nat.reduceMul, Nat.reduceLT, Nat.reduceLeDiff, Nat.reduceEqDiff, Nat.reduceMod, Nat.reduceDiv, Int.reduceNeg, Int.reduceLE, Int.reduceLT, Int.reduceToNat, Int.reduceEq, Int.reduceNe, ↓reduceIte]
    refine callD_of (profile_good s _ hs.profiles) ?_
    set_option maxRecDepth 100000 in simp (maxSteps := 10000000) only [go_sem, Nat.reduceAdd, Nat.reduceSub, Nat.reduceMul, Nat.reduceLT, Nat.reduceLeDiff, Nat.reduceEqDiff, Nat.reduceMod, Nat.reduceDiv, Int.reduceNeg, Int.reduceLE, Int.reduceLT, Int.reduceToNat, Int.reduceEq, Int.reduceNe, ↓reduceIte,  hp0, hp1, hp2, hix']
    refine ⟨by decide +kernel, ?_⟩
    refine call_of (includes_good _ _) ?_
    set_option maxRecDepth 100000 in simp (maxSteps := 10000000) only [go_sem, Nat.reduceAdd, Nat.reduceSub, Nat.reduceMul, Nat.reduceLT, Nat.reduceLeDiff, Nat.reduceEqDiff, Nat.reduceMod, Nat.reduceDiv, Int.reduceNeg, Int.reduceLE, Int.reduceLT, Int.reduceToNat, Int.reduceEq, Int.reduceNe, ↓reduceIte]
    repeat' (first | (refine ifI (fun hh => ?_) fun hh => ?_) | (set_option maxRecDepth 100000 in simp (maxSteps := 10000000) only [go_sem, Nat.reduceAdd, Nat.reduceSub, Nat.reduceMul, Nat.reduceLT, Nat.reduceLeDiff, Nat.reduceEqDiff, Nat.reduceMod, Nat.reduceDiv, Int.reduceNeg, Int.reduceLE, Int.reduceLT, Int.reduceToNat, Int.reduceEq, Int.reduceNe, ↓reduceIte,  *]))
    all_goals (simp_all [audB])
  · have hR : ruleOf s a r = nth a.objects r.object.toNat := by rw [ruleOf, if_neg h1]
    set_option maxRecDepth 100000 in simp (maxSteps := 10000000) only [go_sem, Nat.reduceAdd, Nat.reduceSub, Nat.reduceMul, Nat.reduceLT, Nat.reduceLeDiff, Nat.reduceEqDiff, Nat.reduceMod, Nat.reduceDiv, Int.reduceNeg, Int.reduceLE, Int.reduceLT, Int.reduceToNat, Int.reduceEq, Int.reduceNe, ↓reduceIte]
    refine call_of (includes_good _ _) ?_
    set_option maxRecDepth 100000 in simp (maxSteps := 10000000) only [go_sem, Nat.reduceAdd, Nat.reduceSub, Nat.reduceMul, Nat.reduceLT, Nat.reduceLeDiff, Nat.reduceEqDiff, Nat.reduceMod, Nat.reduceDiv, Int.reduceNeg, Int.reduceLE, Int.reduceLT, Int.reduceToNat, Int.reduceEq, Int.reduceNe, ↓reduceIte]
    repeat' (first | (refine ifI (fun hh => ?_) fun hh => ?_) | (set_option maxRecDepth 100000 in simp (maxSteps := 10000000) only [go_sem, Nat.reduceAdd, Nat.reduceSub, Nat.reduceMul, Nat.reduceLT, Nat.reduceLeDiff, Nat.reduceEqDiff, Nat.reduceMod, Nat.reduceDiv, Int.reduceNeg, Int.reduceLE, Int.reduceLT, Int.reduceToNat, Int.reduceEq, Int.reduceNe, ↓reduceIte,  *]))
    all_goals (simp_all [audB])
end Go.Proofs.Ytdmcmfdmnlckdaa.C10
