/- Chapter 10: the law of audits: the accesses. -/
import Derived.Test.YtdmcmfdmnlckdaaF18
namespace Go.Proofs.Ytdmcmfdmnlckdaa.C10
open Go Go.Proofs Go.Proofs.Ytdmcmfdmnlckdaa.Ab
set_option linter.unusedSimpArgs false
attribute [local congr] ite_ctx

theorem aud_fits {s : Sec} {a : Rules} {l : List Req} {k : Nat} (h : k ≤ 1000000) : ((audOf s a l k).length + 1) * 16 ≤ 140737488355328 ∧ (audOf s a l k).length + 1 ≤ maxLen := by
  have := audOf_len s a l k
  unfold maxLen
  exact ⟨by omega, by omega⟩
theorem audOf_yes {s : Sec} {a : Rules} {l : List Req} {k : Nat} (h : audB s a (nth l k) (accP s (nth l k)).2 = true) : List.map encEntry (audOf s a l (k + 1)) = List.map encEntry (audOf s a l k) ++ [[.int .i64 (k : Int), .bool (accP s (nth l k)).2]] := by
  rw [audOf, if_pos h, List.map_append]; rfl
theorem audOf_no {s : Sec} {a : Rules} {l : List Req} {k : Nat} (h : ¬ audB s a (nth l k) (accP s (nth l k)).2 = true) : audOf s a l (k + 1) = audOf s a l k := by
  rw [audOf, if_neg h, List.append_nil]

/-- All rules of the right number. -/
structure AudOk (s : Sec) (a : Rules) : Prop where
  sec : (secE s).2 = 0
  objs : a.objects.length = s.objects.length
  profs : a.profiles.length = s.profiles.length
theorem audOk_of {s : Sec} {a : Rules} (h : (auditE s a).2 = 0) : AudOk s a := by
  rw [auditE] at h
  split at h
  · rename_i h1; exact absurd h h1
  rename_i h1
  split at h
  · cases h
  rename_i h2
  split at h
  · cases h
  rename_i h3
  exact ⟨Classical.not_not.1 h1, by omega, by omega⟩

def AuditedE (s : Sec) (a : Rules) (l : List Req) : Int := if ¬ (auditE s a).2 = 0 then (auditE s a).2 else auditErr s l
def AuditedP (s : Sec) (a : Rules) (l : List Req) : List (Nat × Bool) := if ¬ AuditedE s a l = 0 then [] else audOf s a l l.length

set_option maxHeartbeats 8000000 in
theorem Audited_good (s : Sec) (a : Rules) (l : List Req) (hs : Fit s) (ho : a.objects.length ≤ 1000000) (hp : a.profiles.length ≤ 1000000) (hl : l.length ≤ 1000000) (hr : ∀ r ∈ l, r.adopters.length ≤ 1000000) :
    Ans Try.prog 45 [.agg (encSec s), .agg (encRules a), .sl (l.map encReq)] (.tup [.sl ((AuditedP s a l).map encEntry), .int .i64 (AuditedE s a l)]) := by
  refine Classical.byCases (fun h1 : (auditE s a).2 = 0 => ?_) fun h1 => ?_
  case refine_2 =>
    have hE : AuditedE s a l = (auditE s a).2 := by rw [AuditedE, if_pos h1]
    have hP : AuditedP s a l = [] := by rw [AuditedP, hE, if_pos h1]
    rw [hP, hE]
    refine Ans.le (r := .tup [.nils, .int .i64 (auditE s a).2]) ?_ (.tup' (.cons .nils (.cons (.refl _) .nil))) rfl
    refine good_run [(8, [6, 7, 11, 12, 13, 14, 15, 31, 32, 33, 34, 35, 36, 37, 38, 39, 40, 41, 42, 43, 44, 45, 46, 47, 48, 49, 50, 51, 52, 53, 54, 55, 56, 57, 58], [14, 12, 56, 2002094057])] mixed Try.func45 rfl Try.ntmps45 (rs := [.tmp 6, .tmp 7]) rfl (by decide +kernel) (by kernel_rfl) rfl ?_
    rw [startE_eq 60 _ _ _ rfl rfl]
    set_option maxRecDepth 100000 in simp (maxSteps := 10000000) only [go_sem, Nat.reduceAdd, Nat.reduceSub, Nat.reduceMul, Nat.reduceLT, Nat.reduceLeDiff, Nat.reduceEqDiff, Nat.reduceMod, Nat.reduceDiv, Int.reduceNeg, Int.reduceLE, Int.reduceLT, Int.reduceToNat, Int.reduceEq, Int.reduceNe, ↓reduceIte]
    refine call_of (CheckAudit_good s a hs ho hp) ?_
    set_option maxRecDepth 100000 in simp (maxSteps := 10000000) only [go_sem, Nat.reduceAdd, Nat.reduceSub, Nat.reduceMul, Nat.reduceLT, Nat.reduceLeDiff, Nat.reduceEqDiff, Nat.reduceMod, Nat.reduceDiv, Int.reduceNeg, Int.reduceLE, Int.reduceLT, Int.reduceToNat, Int.reduceEq, Int.reduceNe, ↓reduceIte,  h1, not_false_eq_true, decide_true]
  have hE : AuditedE s a l = auditErr s l := by rw [AuditedE, if_neg (not_not_intro h1)]
  have hk := audOk_of h1
  have hS := sound_of hs hk.sec
  refine Classical.byCases (fun h30 : (30 : Int) < (l.length : Int) => ?_) fun h30 => ?_
  · have hE2 : AuditedE s a l = 2 := by rw [hE, auditErr, if_pos h30]
    have hP : AuditedP s a l = [] := by rw [AuditedP, hE2, if_pos (by decide)]
    rw [hP, hE2]
    refine Ans.le (r := .tup [.nils, .int .i64 2]) ?_ (.tup' (.cons .nils (.cons (.refl _) .nil))) rfl
    refine good_run [(8, [6, 7, 11, 12, 13, 14, 15, 31, 32, 33, 34, 35, 36, 37, 38, 39, 40, 41, 42, 43, 44, 45, 46, 47, 48, 49, 50, 51, 52, 53, 54, 55, 56, 57, 58], [14, 12, 56, 2002094057])] mixed Try.func45 rfl Try.ntmps45 (rs := [.tmp 6, .tmp 7]) rfl (by decide +kernel) (by kernel_rfl) rfl ?_
    rw [startE_eq 60 _ _ _ rfl rfl]
    set_option maxRecDepth 100000 in simp (maxSteps := 10000000) only [go_sem, Nat.reduceAdd, Nat.reduceSub, Nat.reduceMul, Nat.reduceLT, Nat.reduceLeDiff, Nat.reduceEqDiff, Nat.reduceMod, Nat.reduceDiv, Int.reduceNeg, Int.reduceLE, Int.reduceLT, Int.reduceToNat, Int.reduceEq, Int.reduceNe, ↓reduceIte]
    refine call_of (CheckAudit_good s a hs ho hp) ?_
    set_option maxRecDepth 100000 in simp (maxSteps := 10000000) only [go_sem, Nat.reduceAdd, Nat.reduceSub, Nat.reduceMul, Nat.reduceLT, Nat.reduceLeDiff, Nat.reduceEqDiff, Nat.reduceMod, Nat.reduceDiv, Int.reduceNeg, Int.reduceLE, Int.reduceLT, Int.reduceToNat, Int.reduceEq, Int.reduceNe, ↓reduceIte,  h1, eq_self, not_true_eq_false, decide_false, h30, decide_true]
  have hE2 : auditErr s l = scan (fun i => reqE s (nth l i)) l.length 0 := by rw [auditErr, if_neg h30]
  refine Classical.byCases (fun h0 : auditErr s l = 0 => ?_) fun h0 => ?_
  · have hP : AuditedP s a l = audOf s a l l.length := by rw [AuditedP, hE, if_neg (not_not_intro h0)]
    have hz : ∀ i, i < l.length → reqE s (nth l i) = 0 := fun i hi => scan_zero _ _ (hE2 ▸ h0) i (Nat.zero_le _) (by omega)
    rw [hP, hE, h0]
    refine good_run [(8, [6, 7, 11, 12, 13, 14, 15, 31, 32, 33, 34, 35, 36, 37, 38, 39, 40, 41, 42, 43, 44, 45, 46, 47, 48, 49, 50, 51, 52, 53, 54, 55, 56, 57, 58], [14, 12, 56, 2002094057])] mixed Try.func45 rfl Try.ntmps45 (rs := [.tmp 6, .tmp 7]) rfl (by decide +kernel) (by kernel_rfl) rfl ?_
    rw [startE_eq 60 _ _ _ rfl rfl]
    set_option maxRecDepth 100000 in simp (maxSteps := 10000000) only [go_sem, Nat.reduceAdd, Nat.reduceSub, Nat.reduceMul, Nat.reduceLT, Nat.reduceLeDiff, Nat.reduceEqDiff, Nat.reduceMod, Nat.reduceDiv, Int.reduceNeg, Int.reduceLE, Int.reduceLT, Int.reduceToNat, Int.reduceEq, Int.reduceNe, ↓reduceIte]
    refine call_of (CheckAudit_good s a hs ho hp) ?_
    set_option maxRecDepth 100000 in simp (maxSteps := 10000000) only [go_sem, Nat.reduceAdd, Nat.reduceSub, Nat.reduceMul, Nat.reduceLT, Nat.reduceLeDiff, Nat.reduceEqDiff, Nat.reduceMod, Nat.reduceDiv, Int.reduceNeg, Int.reduceLE, Int.reduceLT, Int.reduceToNat, Int.reduceEq, Int.reduceNe, ↓reduceIte,  h1, eq_self, not_true_eq_false, decide_false, h30]
    refine loop_by ([6, 7, 11, 12, 13, 14, 15, 31, 32, 33, 34, 35, 36, 37, 38, 39, 40, 41, 42, 43, 44, 45, 46, 47, 48, 49, 50, 51, 52, 53, 54, 55, 56, 57, 58], [14, 12, 56, 2002094057]) (fun x : Nat × Nat => [(.s 30, .int .i64 (x.1 : Int)), (.s 10, .ref 57 (x.2 + 1)), (.o 12, deadV x.1), (.o 14, deadV x.1), (.o 56, deadV x.2), (.o 57, .obj (x.2 + 1) 94 2 false true ((audOf s a l x.1).map encEntry))])
      (fun x => l.length - x.1) (fun x => x.1 ≤ l.length) (0, 0) rfl (Nat.zero_le _) ?_ ?_
    · set_option maxRecDepth 100000 in simp (maxSteps := 10000000) only [go_sem, Nat.reduceAdd, Nat.reduceSub, Nat.reduceMul, Nat.reduceLT, Nat.reduceLeDiff, Nat.reduceEqDiff, Nat.reduceMod, Nat.reduceDiv, Int.reduceNeg, Int.reduceLE, Int.reduceLT, Int.reduceToNat, Int.reduceEq, Int.reduceNe, ↓reduceIte,  show audOf s a l 0 = [] from rfl]
    rintro c' st' hst ⟨k, m⟩ hi ih
    simp only at hi
    set_option maxRecDepth 100000 in simp (maxSteps := 10000000) only [go_sem, Nat.reduceAdd, Nat.reduceSub, Nat.reduceMul, Nat.reduceLT, Nat.reduceLeDiff, Nat.reduceEqDiff, Nat.reduceMod, Nat.reduceDiv, Int.reduceNeg, Int.reduceLE, Int.reduceLT, Int.reduceToNat, Int.reduceEq, Int.reduceNe, ↓reduceIte]
    refine ifI (fun hlt => ?_) fun hlt => ?_
    · have hrk := hr _ (nth_mem hlt)
      have hq := hz k hlt
      have z := reqE_zero hq
      set_option maxRecDepth 100000 in simp (maxSteps := 10000000) only [go_sem, Nat.reduceAdd, Nat.reduceSub, Nat.reduceMul, Nat.reduceLT, Nat.reduceLeDiff, Nat.reduceEqDiff, Nat.reduceMod, Nat.reduceDiv, Int.reduceNeg, Int.reduceLE, Int.reduceLT, Int.reduceToNat, Int.reduceEq, Int.reduceNe, ↓reduceIte,  hlt]
      refine call_of (requestErr_good s (nth l k) hs hrk) ?_
      set_option maxRecDepth 100000 in simp (maxSteps := 10000000) only [go_sem, Nat.reduceAdd, Nat.reduceSub, Nat.reduceMul, Nat.reduceLT, Nat.reduceLeDiff, Nat.reduceEqDiff, Nat.reduceMod, Nat.reduceDiv, Int.reduceNeg, Int.reduceLE, Int.reduceLT, Int.reduceToNat, Int.reduceEq, Int.reduceNe, ↓reduceIte,  hq, eq_self, not_true_eq_false, decide_false]
      refine call_of (access_good s (nth l k) hS hrk z.1 z.2.1 z.2.2.1) ?_
      set_option maxRecDepth 100000 in simp (maxSteps := 10000000) only [go_sem, Nat.reduceAdd, Nat.reduceSub, Nat.reduceMul, Nat.reduceLT, Nat.reduceLeDiff, Nat.reduceEqDiff, Nat.reduceMod, Nat.reduceDiv, Int.reduceNeg, Int.reduceLE, Int.reduceLT, Int.reduceToNat, Int.reduceEq, Int.reduceNe, ↓reduceIte]
      refine call_of (isAudited_good s a (nth l k) _ hs hk.objs hk.profs z.1 z.2.1) ?_
      set_option maxRecDepth 100000 in simp (maxSteps := 10000000) only [go_sem, Nat.reduceAdd, Nat.reduceSub, Nat.reduceMul, Nat.reduceLT, Nat.reduceLeDiff, Nat.reduceEqDiff, Nat.reduceMod, Nat.reduceDiv, Int.reduceNeg, Int.reduceLE, Int.reduceLT, Int.reduceToNat, Int.reduceEq, Int.reduceNe, ↓reduceIte]
      refine ifI (fun h3 => ?_) fun h3 => ?_
      · set_option maxRecDepth 100000 in simp (maxSteps := 10000000) only [go_sem, Nat.reduceAdd, Nat.reduceSub, Nat.reduceMul, Nat.reduceLT, Nat.reduceLeDiff, Nat.reduceEqDiff, Nat.reduceMod, Nat.reduceDiv, Int.reduceNeg, Int.reduceLE, Int.reduceLT, Int.reduceToNat, Int.reduceEq, Int.reduceNe, ↓reduceIte,  (aud_fits (s := s) (a := a) (l := l) (k := k) (by omega)).1, (aud_fits (s := s) (a := a) (l := l) (k := k) (by omega)).2]
        refine ih (k + 1, m + 1) _ (by simp only; omega) (by simp only; omega) ?_
        set_option maxRecDepth 100000 in simp (maxSteps := 10000000) only [go_sem, Nat.reduceAdd, Nat.reduceSub, Nat.reduceMul, Nat.reduceLT, Nat.reduceLeDiff, Nat.reduceEqDiff, Nat.reduceMod, Nat.reduceDiv, Int.reduceNeg, Int.reduceLE, Int.reduceLT, Int.reduceToNat, Int.reduceEq, Int.reduceNe, ↓reduceIte,  wrap_succ (show k < 9223372036854775807 by omega), audOf_yes h3]
      · set_option maxRecDepth 100000 in simp (maxSteps := 10000000) only [go_sem, Nat.reduceAdd, Nat.reduceSub, Nat.reduceMul, Nat.reduceLT, Nat.reduceLeDiff, Nat.reduceEqDiff, Nat.reduceMod, Nat.reduceDiv, Int.reduceNeg, Int.reduceLE, Int.reduceLT, Int.reduceToNat, Int.reduceEq, Int.reduceNe, ↓reduceIte]
        refine ih (k + 1, m) _ (by simp only; omega) (by simp only; omega) ?_
        set_option maxRecDepth 100000 in simp (maxSteps := 10000000) only [go_sem, Nat.reduceAdd, Nat.reduceSub, Nat.reduceMul, Nat.reduceLT, Nat.reduceLeDiff, Nat.reduceEqDiff, Nat.reduceMod, Nat.reduceDiv, Int.reduceNeg, Int.reduceLE, Int.reduceLT, Int.reduceToNat, Int.reduceEq, Int.reduceNe, ↓reduceIte,  wrap_succ (show k < 9223372036854775807 by omega), audOf_no h3]
    · have hke : k = l.length := by omega
      subst hst
      set_option maxRecDepth 100000 in simp (maxSteps := 10000000) only [go_sem, Nat.reduceAdd, Nat.reduceSub, Nat.reduceMul, Nat.reduceLT, Nat.reduceLeDiff, Nat.reduceEqDiff, Nat.reduceMod, Nat.reduceDiv, Int.reduceNeg, Int.reduceLE, Int.reduceLT, Int.reduceToNat, Int.reduceEq, Int.reduceNe, ↓reduceIte,  hke]
  · have hP : AuditedP s a l = [] := by rw [AuditedP, hE, if_pos h0]
    rw [hP, hE]
    refine Ans.le (r := .tup [.nils, .int .i64 (auditErr s l)]) ?_ (.tup' (.cons .nils (.cons (.refl _) .nil))) rfl
    refine good_run [(8, [6, 7, 11, 12, 13, 14, 15, 31, 32, 33, 34, 35, 36, 37, 38, 39, 40, 41, 42, 43, 44, 45, 46, 47, 48, 49, 50, 51, 52, 53, 54, 55, 56, 57, 58], [14, 12, 56, 2002094057])] mixed Try.func45 rfl Try.ntmps45 (rs := [.tmp 6, .tmp 7]) rfl (by decide +kernel) (by kernel_rfl) rfl ?_
    rw [startE_eq 60 _ _ _ rfl rfl]
    set_option maxRecDepth 100000 in simp (maxSteps := 10000000) only [go_sem, Nat.reduceAdd, Nat.reduceSub, Nat.reduceMul, Nat.reduceLT, Nat.reduceLeDiff, Nat.reduceEqDiff, Nat.reduceMod, Nat.reduceDiv, Int.reduceNeg, Int.reduceLE, Int.reduceLT, Int.reduceToNat, Int.reduceEq, Int.reduceNe, ↓reduceIte]
    refine call_of (CheckAudit_good s a hs ho hp) ?_
    set_option maxRecDepth 100000 in simp (maxSteps := 10000000) only [go_sem, Nat.reduceAdd, Nat.reduceSub, Nat.reduceMul, Nat.reduceLT, Nat.reduceLeDiff, Nat.reduceEqDiff, Nat.reduceMod, Nat.reduceDiv, Int.reduceNeg, Int.reduceLE, Int.reduceLT, Int.reduceToNat, Int.reduceEq, Int.reduceNe, ↓reduceIte,  h1, eq_self, not_true_eq_false, decide_false, h30]
    refine loop_by ([6, 7, 11, 12, 13, 14, 15, 31, 32, 33, 34, 35, 36, 37, 38, 39, 40, 41, 42, 43, 44, 45, 46, 47, 48, 49, 50, 51, 52, 53, 54, 55, 56, 57, 58], [14, 12, 56, 2002094057]) (fun x : Nat × Nat => [(.s 30, .int .i64 (x.1 : Int)), (.s 10, .ref 57 (x.2 + 1)), (.o 12, deadV x.1), (.o 14, deadV x.1), (.o 56, deadV x.2), (.o 57, .obj (x.2 + 1) 94 2 false true ((audOf s a l x.1).map encEntry))])
      (fun x => l.length - x.1) (fun x => x.1 ≤ l.length ∧ auditErr s l = scan (fun i => reqE s (nth l i)) (l.length - x.1) x.1) (0, 0) rfl ⟨Nat.zero_le _, hE2⟩ ?_ ?_
    · set_option maxRecDepth 100000 in simp (maxSteps := 10000000) only [go_sem, Nat.reduceAdd, Nat.reduceSub, Nat.reduceMul, Nat.reduceLT, Nat.reduceLeDiff, Nat.reduceEqDiff, Nat.reduceMod, Nat.reduceDiv, Int.reduceNeg, Int.reduceLE, Int.reduceLT, Int.reduceToNat, Int.reduceEq, Int.reduceNe, ↓reduceIte,  show audOf s a l 0 = [] from rfl]
    rintro c' st' hst ⟨k, m⟩ ⟨hi, hf⟩ ih
    simp only at hi hf
    set_option maxRecDepth 100000 in simp (maxSteps := 10000000) only [go_sem, Nat.reduceAdd, Nat.reduceSub, Nat.reduceMul, Nat.reduceLT, Nat.reduceLeDiff, Nat.reduceEqDiff, Nat.reduceMod, Nat.reduceDiv, Int.reduceNeg, Int.reduceLE, Int.reduceLT, Int.reduceToNat, Int.reduceEq, Int.reduceNe, ↓reduceIte]
    refine ifI (fun hlt => ?_) fun hlt => ?_
    · have hrk := hr _ (nth_mem hlt)
      set_option maxRecDepth 100000 in simp (maxSteps := 10000000) only [go_sem, Nat.reduceAdd, Nat.reduceSub, Nat.reduceMul, Nat.reduceLT, Nat.reduceLeDiff, Nat.reduceEqDiff, Nat.reduceMod, Nat.reduceDiv, Int.reduceNeg, Int.reduceLE, Int.reduceLT, Int.reduceToNat, Int.reduceEq, Int.reduceNe, ↓reduceIte,  hlt]
      refine call_of (requestErr_good s (nth l k) hs hrk) ?_
      set_option maxRecDepth 100000 in simp (maxSteps := 10000000) only [go_sem, Nat.reduceAdd, Nat.reduceSub, Nat.reduceMul, Nat.reduceLT, Nat.reduceLeDiff, Nat.reduceEqDiff, Nat.reduceMod, Nat.reduceDiv, Int.reduceNeg, Int.reduceLE, Int.reduceLT, Int.reduceToNat, Int.reduceEq, Int.reduceNe, ↓reduceIte]
      refine ifI (fun h2 => ?_) fun h2 => ?_
      · set_option maxRecDepth 100000 in simp (maxSteps := 10000000) only [go_sem, Nat.reduceAdd, Nat.reduceSub, Nat.reduceMul, Nat.reduceLT, Nat.reduceLeDiff, Nat.reduceEqDiff, Nat.reduceMod, Nat.reduceDiv, Int.reduceNeg, Int.reduceLE, Int.reduceLT, Int.reduceToNat, Int.reduceEq, Int.reduceNe, ↓reduceIte]
        rw [hf, scan_hit hlt rfl h2]
      have hq : reqE s (nth l k) = 0 := Classical.not_not.1 h2
      have hf2 := hf.trans (scan_skip hlt hq)
      have z := reqE_zero hq
      set_option maxRecDepth 100000 in simp (maxSteps := 10000000) only [go_sem, Nat.reduceAdd, Nat.reduceSub, Nat.reduceMul, Nat.reduceLT, Nat.reduceLeDiff, Nat.reduceEqDiff, Nat.reduceMod, Nat.reduceDiv, Int.reduceNeg, Int.reduceLE, Int.reduceLT, Int.reduceToNat, Int.reduceEq, Int.reduceNe, ↓reduceIte]
      refine call_of (access_good s (nth l k) hS hrk z.1 z.2.1 z.2.2.1) ?_
      set_option maxRecDepth 100000 in simp (maxSteps := 10000000) only [go_sem, Nat.reduceAdd, Nat.reduceSub, Nat.reduceMul, Nat.reduceLT, Nat.reduceLeDiff, Nat.reduceEqDiff, Nat.reduceMod, Nat.reduceDiv, Int.reduceNeg, Int.reduceLE, Int.reduceLT, Int.reduceToNat, Int.reduceEq, Int.reduceNe, ↓reduceIte]
      refine call_of (isAudited_good s a (nth l k) _ hs hk.objs hk.profs z.1 z.2.1) ?_
      set_option maxRecDepth 100000 in simp (maxSteps := 10000000) only [go_sem, Nat.reduceAdd, Nat.reduceSub, Nat.reduceMul, Nat.reduceLT, Nat.reduceLeDiff, Nat.reduceEqDiff, Nat.reduceMod, Nat.reduceDiv, Int.reduceNeg, Int.reduceLE, Int.reduceLT, Int.reduceToNat, Int.reduceEq, Int.reduceNe, ↓reduceIte]
      refine ifI (fun h3 => ?_) fun h3 => ?_
      · set_option maxRecDepth 100000 in simp (maxSteps := 10000000) only [go_sem, Nat.reduceAdd, Nat.reduceSub, Nat.reduceMul, Nat.reduceLT, Nat.reduceLeDiff, Nat.reduceEqDiff, Nat.reduceMod, Nat.reduceDiv, Int.reduceNeg, Int.reduceLE, Int.reduceLT, Int.reduceToNat, Int.reduceEq, Int.reduceNe, ↓reduceIte,  (aud_fits (s := s) (a := a) (l := l) (k := k) (by omega)).1, (aud_fits (s := s) (a := a) (l := l) (k := k) (by omega)).2]
        refine ih (k + 1, m + 1) _ ⟨by simp only; omega, hf2⟩ (by simp only; omega) ?_
        set_option maxRecDepth 100000 in simp (maxSteps := 10000000) only [go_sem, Nat.reduceAdd, Nat.reduceSub, Nat.reduceMul, Nat.reduceLT, Nat.reduceLeDiff, Nat.reduceEqDiff, Nat.reduceMod, Nat.reduceDiv, Int.reduceNeg, Int.reduceLE, Int.reduceLT, Int.reduceToNat, Int.reduceEq, Int.reduceNe, ↓reduceIte,  wrap_succ (show k < 9223372036854775807 by omega), audOf_yes h3]
      · set_option maxRecDepth 100000 in simp (maxSteps := 10000000) only [go_sem, Nat.reduceAdd, Nat.reduceSub, Nat.reduceMul, Nat.reduceLT, Nat.reduceLeDiff, Nat.reduceEqDiff, Nat.reduceMod, Nat.reduceDiv, Int.reduceNeg, Int.reduceLE, Int.reduceLT, Int.reduceToNat, Int.reduceEq, Int.reduceNe, ↓reduceIte]
        refine ih (k + 1, m) _ ⟨by simp only; omega, hf2⟩ (by simp only; omega) ?_
        set_option maxRecDepth 100000 in simp (maxSteps := 10000000) only [go_sem, Nat.reduceAdd, Nat.reduceSub, Nat.reduceMul, Nat.reduceLT, Nat.reduceLeDiff, Nat.reduceEqDiff, Nat.reduceMod, Nat.reduceDiv, Int.reduceNeg, Int.reduceLE, Int.reduceLT, Int.reduceToNat, Int.reduceEq, Int.reduceNe, ↓reduceIte,  wrap_succ (show k < 9223372036854775807 by omega), audOf_no h3]
    · exact absurd (by rw [hf, show l.length - k = 0 by omega]; rfl) h0

set_option maxHeartbeats 4000000 in
theorem AuditErr_good (s : Sec) (l : List Req) (hs : Fit s) (hl : l.length ≤ 1000000) (hr : ∀ r ∈ l, r.adopters.length ≤ 1000000) : Ans Try.prog 46 [.agg (encSec s), .sl (l.map encReq)] (.int .i64 (auditErr s l)) := by
  refine good_run [(4, [4, 6, 10, 11, 12, 13, 14, 15, 16, 17, 18, 19, 20, 21, 22, 23, 24], [])] mixed Try.func46 rfl Try.ntmps46 (rs := [.tmp 4]) rfl (by decide +kernel) (by kernel_rfl) rfl ?_
  rw [startE_eq 25 _ _ _ rfl rfl]
  set_option maxRecDepth 100000 in simp (maxSteps := 10000000) only [go_sem, Nat.reduceAdd, Nat.reduceSub, Nat.reduceMul, Nat.reduceLT, Nat.reduceLeDiff, Nat.reduceEqDiff, Nat.reduceMod, Nat.reduceDiv, Int.reduceNeg, Int.reduceLE, Int.reduceLT, Int.reduceToNat, Int.reduceEq, Int.reduceNe, ↓reduceIte]
  refine ifI (fun h30 => ?_) fun h30 => ?_
  · set_option maxRecDepth 100000 in simp (maxSteps := 10000000) only [go_sem, Nat.reduceAdd, Nat.reduceSub, Nat.reduceMul, Nat.reduceLT, Nat.reduceLeDiff, Nat.reduceEqDiff, Nat.reduceMod, Nat.reduceDiv, Int.reduceNeg, Int.reduceLE, Int.reduceLT, Int.reduceToNat, Int.reduceEq, Int.reduceNe, ↓reduceIte]
    rw [auditErr, if_pos h30]
  have hE2 : auditErr s l = scan (fun i => reqE s (nth l i)) l.length 0 := by rw [auditErr, if_neg h30]
  set_option maxRecDepth 100000 in simp (maxSteps := 10000000) only [go_sem, Nat.reduceAdd, Nat.reduceSub, Nat.reduceMul, Nat.reduceLT, Nat.reduceLeDiff, Nat.reduceEqDiff, Nat.reduceMod, Nat.reduceDiv, Int.reduceNeg, Int.reduceLE, Int.reduceLT, Int.reduceToNat, Int.reduceEq, Int.reduceNe, ↓reduceIte]
  refine loop_by ([4, 6, 10, 11, 12, 13, 14, 15, 16, 17, 18, 19, 20, 21, 22, 23, 24], []) (fun i : Nat => [(.s 5, .int .i64 (i : Int))]) (fun i => l.length - i) (fun i => i ≤ l.length ∧ auditErr s l = scan (fun i => reqE s (nth l i)) (l.length - i) i) 0 rfl ⟨Nat.zero_le _, hE2⟩ rfl ?_
  rintro c' st' hst k ⟨hi, hf⟩ ih
  set_option maxRecDepth 100000 in simp (maxSteps := 10000000) only [go_sem, Nat.reduceAdd, Nat.reduceSub, Nat.reduceMul, Nat.reduceLT, Nat.reduceLeDiff, Nat.reduceEqDiff, Nat.reduceMod, Nat.reduceDiv, Int.reduceNeg, Int.reduceLE, Int.reduceLT, Int.reduceToNat, Int.reduceEq, Int.reduceNe, ↓reduceIte]
  refine ifI (fun hlt => ?_) fun hlt => ?_
  · set_option maxRecDepth 100000 in simp (maxSteps := 10000000) only [go_sem, Nat.reduceAdd, Nat.reduceSub, Nat.reduceMul, Nat.reduceLT, Nat.reduceLeDiff, Nat.reduceEqDiff, Nat.reduceMod, Nat.reduceDiv, Int.reduceNeg, Int.reduceLE, Int.reduceLT, Int.reduceToNat, Int.reduceEq, Int.reduceNe, ↓reduceIte,  hlt]
    refine callD_of (requestErrR_good s (nth l k) hs (hr _ (nth_mem hlt))) ?_
    set_option maxRecDepth 100000 in simp (maxSteps := 10000000) only [go_sem, Nat.reduceAdd, Nat.reduceSub, Nat.reduceMul, Nat.reduceLT, Nat.reduceLeDiff, Nat.reduceEqDiff, Nat.reduceMod, Nat.reduceDiv, Int.reduceNeg, Int.reduceLE, Int.reduceLT, Int.reduceToNat, Int.reduceEq, Int.reduceNe, ↓reduceIte]
    refine ⟨by decide +kernel, ifI (fun h2 => ?_) fun h2 => ?_⟩
    · set_option maxRecDepth 100000 in simp (maxSteps := 10000000) only [go_sem, Nat.reduceAdd, Nat.reduceSub, Nat.reduceMul, Nat.reduceLT, Nat.reduceLeDiff, Nat.reduceEqDiff, Nat.reduceMod, Nat.reduceDiv, Int.reduceNeg, Int.reduceLE, Int.reduceLT, Int.reduceToNat, Int.reduceEq, Int.reduceNe, ↓reduceIte]
      rw [hf, scan_hit hlt rfl h2]
    · set_option maxRecDepth 100000 in simp (maxSteps := 10000000) only [go_sem, Nat.reduceAdd, Nat.reduceSub, Nat.reduceMul, Nat.reduceLT, Nat.reduceLeDiff, Nat.reduceEqDiff, Nat.reduceMod, Nat.reduceDiv, Int.reduceNeg, Int.reduceLE, Int.reduceLT, Int.reduceToNat, Int.reduceEq, Int.reduceNe, ↓reduceIte]
      refine ih (k + 1) _ ⟨by omega, hf.trans (scan_skip hlt (Classical.not_not.1 h2))⟩ (by omega) ?_
      set_option maxRecDepth 100000 in simp (maxSteps := 10000000) only [go_sem, Nat.reduceAdd, Nat.reduceSub, Nat.reduceMul, Nat.reduceLT, Nat.reduceLeDiff, Nat.reduceEqDiff, Nat.reduceMod, Nat.reduceDiv, Int.reduceNeg, Int.reduceLE, Int.reduceLT, Int.reduceToNat, Int.reduceEq, Int.reduceNe, ↓reduceIte,  wrap_succ (show k < 9223372036854775807 by omega)]
  · subst hst
    set_option maxRecDepth 100000 in simp (maxSteps := 10000000) only [go_sem, Nat.reduceAdd, Nat.reduceSub, Nat.reduceMul, Nat.reduceLT, Nat.reduceLeDiff, Nat.reduceEqDiff, Nat.reduceMod, Nat.reduceDiv, Int.reduceNeg, Int.reduceLE, Int.reduceLT, Int.reduceToNat, Int.reduceEq, Int.reduceNe, ↓reduceIte]
    rw [hf, show l.length - k = 0 by omega]; rfl

set_option maxHeartbeats 8000000 in
theorem AuditedR_good (s : Sec) (a : Rules) (l : List Req) (hS : Sound s) (hk : AudOk s a) (hl : l.length ≤ 1000000) (hr : ∀ r ∈ l, r.adopters.length ≤ 1000000) (hz : ∀ i, i < l.length → reqE s (nth l i) = 0) :
    Ans Try.prog 47 [.agg (encSec s), .agg (encRules a), .sl (l.map encReq)] (.sl ((audOf s a l l.length).map encEntry)) := by
  have hs := hS.fit
  rcases hf : a.failures with _ | _
  · skip
    refine good_run [(3, [9, 10, 11, 12, 13, 14, 15, 16, 17, 18, 19, 20, 21, 22, 23, 24, 25, 26, 27, 28, 29, 30, 31, 32, 33, 34, 35, 36, 37, 38, 39, 40, 41, 42, 43, 44, 45, 46, 47, 48, 49, 50, 51, 52, 53, 54, 55, 56, 57, 58, 59, 60, 61, 62, 63, 64, 65, 66, 67, 68, 69, 70, 71, 72, 73, 74, 75, 76, 77, 78, 79], [9, 78, 1702094079])] mixed Try.func47 rfl Try.ntmps47 (rs := [.tmp 6]) rfl (by decide +kernel) (by kernel_rfl) rfl ?_
    rw [startE_eq 81 _ _ _ rfl rfl]
    set_option maxRecDepth 100000 in simp (maxSteps := 10000000) only [go_sem, Nat.reduceAdd, Nat.reduceSub, Nat.reduceMul, Nat.reduceLT, Nat.reduceLeDiff, Nat.reduceEqDiff, Nat.reduceMod, Nat.reduceDiv, Int.reduceNeg, Int.reduceLE, Int.reduceLT, Int.reduceToNat, Int.reduceEq, Int.reduceNe, ↓reduceIte,  hf]
    refine loop_by ([9, 10, 11, 12, 13, 14, 15, 16, 17, 18, 19, 20, 21, 22, 23, 24, 25, 26, 27, 28, 29, 30, 31, 32, 33, 34, 35, 36, 37, 38, 39, 40, 41, 42, 43, 44, 45, 46, 47, 48, 49, 50, 51, 52, 53, 54, 55, 56, 57, 58, 59, 60, 61, 62, 63, 64, 65, 66, 67, 68, 69, 70, 71, 72, 73, 74, 75, 76, 77, 78, 79], [9, 78, 1702094079]) (fun x : Nat × Nat => [(.s 8, .int .i64 (x.1 : Int)), (.s 7, .ref 79 (x.2 + 1)), (.o 9, deadV x.1), (.o 78, deadV x.2), (.o 79, .obj (x.2 + 1) 94 2 false true ((audOf s a l x.1).map encEntry))])
      (fun x => l.length - x.1) (fun x => x.1 ≤ l.length) (0, 0) rfl (Nat.zero_le _) ?_ ?_
    · set_option maxRecDepth 100000 in simp (maxSteps := 10000000) only [go_sem, Nat.reduceAdd, Nat.reduceSub, Nat.reduceMul, Nat.reduceLT, Nat.reduceLeDiff, Nat.reduceEqDiff, Nat.reduceMod, Nat.reduceDiv, Int.reduceNeg, Int.reduceLE, Int.reduceLT, Int.reduceToNat, Int.reduceEq, Int.reduceNe, ↓reduceIte,  show audOf s a l 0 = [] from rfl]
    rintro c' st' hst ⟨k, m⟩ hi ih
    simp only at hi
    set_option maxRecDepth 100000 in simp (maxSteps := 10000000) only [go_sem, Nat.reduceAdd, Nat.reduceSub, Nat.reduceMul, Nat.reduceLT, Nat.reduceLeDiff, Nat.reduceEqDiff, Nat.reduceMod, Nat.reduceDiv, Int.reduceNeg, Int.reduceLE, Int.reduceLT, Int.reduceToNat, Int.reduceEq, Int.reduceNe, ↓reduceIte]
    refine ifI (fun hlt => ?_) fun hlt => ?_
    · have hrk := hr _ (nth_mem hlt)
      have z := reqE_zero (hz k hlt)
      have i1 := z.2.1.1
      have i2 : (nth l k).object < (a.objects.length : Int) := by rw [hk.objs]; exact z.2.1.2.1
      have i3 : (nth l k).object.toNat < a.objects.length := by rw [hk.objs]; exact z.2.1.2.2
      have hp0 : 0 ≤ findIx (fun p => decide (p.name = (nth l k).user)) s.profiles 0 := z.1
      have hp1 : findIx (fun p => decide (p.name = (nth l k).user)) s.profiles 0 < (a.profiles.length : Int) := by rw [hk.profs]; exact (ix_facts hp0).1
      have hp2 : (findIx (fun p => decide (p.name = (nth l k).user)) s.profiles 0).toNat < a.profiles.length := by rw [hk.profs]; exact (ix_facts hp0).2
      have hpp : nth a.profiles (findIx (fun p => decide (p.name = (nth l k).user)) s.profiles 0).toNat = nth a.profiles (profIx s (nth l k).user).toNat := rfl
      set_option maxRecDepth 100000 in simp (maxSteps := 10000000) only [go_sem, Nat.reduceAdd, Nat.reduceSub, Nat.reduceMul, Nat.reduceLT, Nat.reduceLeDiff, Nat.reduceEqDiff, Nat.reduceMod, Nat.reduceDiv, Int.reduceNeg, Int.reduceLE, Int.reduceLT, Int.reduceToNat, Int.reduceEq, Int.reduceNe, ↓reduceIte,  hlt]
      refine callD_of (AccessR_good s (nth l k) hS hrk z.1 z.2.1 z.2.2.1) ?_
      set_option maxRecDepth 100000 in simp (maxSteps := 10000000) only [go_sem, Nat.reduceAdd, Nat.reduceSub, Nat.reduceMul, Nat.reduceLT, Nat.reduceLeDiff, Nat.reduceEqDiff, Nat.reduceMod, Nat.reduceDiv, Int.reduceNeg, Int.reduceLE, Int.reduceLT, Int.reduceToNat, Int.reduceEq, Int.reduceNe, ↓reduceIte]
      refine ⟨by decide +kernel, ?_⟩
      set_option maxRecDepth 100000 in simp (maxSteps := 10000000) only [go_sem, Nat.reduceAdd, Nat.reduceSub, Nat.reduceMul, Nat.reduceLT, Nat.reduceLeDiff, Nat.reduceEqDiff, Nat.reduceMod, Nat.reduceDiv, Int.reduceNeg, Int.reduceLE, Int.reduceLT, Int.reduceToNat, Int.reduceEq, Int.reduceNe, ↓reduceIte,  hlt]
      refine call_of (Includes_good _ _) ?_
      set_option maxRecDepth 100000 in simp (maxSteps := 10000000) only [go_sem, Nat.reduceAdd, Nat.reduceSub, Nat.reduceMul, Nat.reduceLT, Nat.reduceLeDiff, Nat.reduceEqDiff, Nat.reduceMod, Nat.reduceDiv, Int.reduceNeg, Int.reduceLE, Int.reduceLT, Int.reduceToNat, Int.reduceEq, Int.reduceNe, ↓reduceIte,  hlt, i1, i2, i3]
      refine ⟨by decide +kernel, ifI (fun h1 => ?_) fun h1 => ?_⟩
      · have hR : ruleOf s a (nth l k) = nth a.profiles (profIx s (nth l k).user).toNat := by rw [ruleOf, if_pos h1]
        set_option maxRecDepth 100000 in simp (maxSteps := 10000000) only [go_sem, Nat.reduceAdd, Nat.reduceSub, Nat.reduceMul, Nat.reduceLT, Nat.reduceLeDiff, Nat.reduceEqDiff, Nat.reduceMod, Nat.reduceDiv, Int.reduceNeg, Int.reduceLE, Int.reduceLT, Int.reduceToNat, Int.reduceEq, Int.reduceNe, ↓reduceIte,  hlt]
        refine callD_of (User_good s _ hs.profiles) ?_
        set_option maxRecDepth 100000 in simp (maxSteps := 10000000) only [go_sem, Nat.reduceAdd, Nat.reduceSub, Nat.reduceMul, Nat.reduceLT, Nat.reduceLeDiff, Nat.reduceEqDiff, Nat.reduceMod, Nat.reduceDiv, Int.reduceNeg, Int.reduceLE, Int.reduceLT, Int.reduceToNat, Int.reduceEq, Int.reduceNe, ↓reduceIte,  hp0, hp1, hp2, hpp]
        refine ⟨by decide +kernel, ?_⟩
        have hb1 := (aud_fits (s := s) (a := a) (l := l) (k := k) (by omega)).1
        have hb2 := (aud_fits (s := s) (a := a) (l := l) (k := k) (by omega)).2
        have ihh := show id _ from ih
        clear ih hz hr hst
        repeat' (first | (refine ifI (fun hh => ?_) fun hh => ?_) | (set_option maxRecDepth 100000 in simp (maxSteps := 10000000) only [go_sem, Nat.reduceAdd, Nat.reduceSub, Nat.reduceMul, Nat.reduceLT, Nat.reduceLeDiff, Nat.reduceEqDiff, Nat.reduceMod, Nat.reduceDiv, Int.reduceNeg, Int.reduceLE, Int.reduceLT, Int.reduceToNat, Int.reduceEq, Int.reduceNe, ↓reduceIte,  *]))
        all_goals first
          | (have h3 : audB s a (nth l k) (accP s (nth l k)).2 = true := by simp_all [audB]
             refine ihh (k + 1, m + 1) _ (by simp only; omega) (by simp only; omega) ?_
             set_option maxRecDepth 100000 in simp (maxSteps := 10000000) only [go_sem, Nat.reduceAdd, Nat.reduceSub, Nat.reduceMul, Nat.reduceLT, Nat.reduceLeDiff, Nat.reduceEqDiff, Nat.reduceMod, Nat.reduceDiv, Int.reduceNeg, Int.reduceLE, Int.reduceLT, Int.reduceToNat, Int.reduceEq, Int.reduceNe, ↓reduceIte,  wrap_succ (show k < 9223372036854775807 by omega), audOf_yes h3])
          | (have h3 : ¬ audB s a (nth l k) (accP s (nth l k)).2 = true := by simp_all [audB]
             refine ihh (k + 1, m) _ (by simp only; omega) (by simp only; omega) ?_
             set_option maxRecDepth 100000 in simp (maxSteps := 10000000) only [go_sem, Nat.reduceAdd, Nat.reduceSub, Nat.reduceMul, Nat.reduceLT, Nat.reduceLeDiff, Nat.reduceEqDiff, Nat.reduceMod, Nat.reduceDiv, Int.reduceNeg, Int.reduceLE, Int.reduceLT, Int.reduceToNat, Int.reduceEq, Int.reduceNe, ↓reduceIte,  wrap_succ (show k < 9223372036854775807 by omega), audOf_no h3])
      · have hR : ruleOf s a (nth l k) = nth a.objects (nth l k).object.toNat := by rw [ruleOf, if_neg h1]
        have hb1 := (aud_fits (s := s) (a := a) (l := l) (k := k) (by omega)).1
        have hb2 := (aud_fits (s := s) (a := a) (l := l) (k := k) (by omega)).2
        have ihh := show id _ from ih
        clear ih hz hr hst
        repeat' (first | (refine ifI (fun hh => ?_) fun hh => ?_) | (set_option maxRecDepth 100000 in simp (maxSteps := 10000000) only [go_sem, Nat.reduceAdd, Nat.reduceSub, Nat.reduceMul, Nat.reduceLT, Nat.reduceLeDiff, Nat.reduceEqDiff, Nat.reduceMod, Nat.reduceDiv, Int.reduceNeg, Int.reduceLE, Int.reduceLT, Int.reduceToNat, Int.reduceEq, Int.reduceNe, ↓reduceIte,  *]))
        all_goals first
          | (have h3 : audB s a (nth l k) (accP s (nth l k)).2 = true := by simp_all [audB]
             refine ihh (k + 1, m + 1) _ (by simp only; omega) (by simp only; omega) ?_
             set_option maxRecDepth 100000 in simp (maxSteps := 10000000) only [go_sem, Nat.reduceAdd, Nat.reduceSub, Nat.reduceMul, Nat.reduceLT, Nat.reduceLeDiff, Nat.reduceEqDiff, Nat.reduceMod, Nat.reduceDiv, Int.reduceNeg, Int.reduceLE, Int.reduceLT, Int.reduceToNat, Int.reduceEq, Int.reduceNe, ↓reduceIte,  wrap_succ (show k < 9223372036854775807 by omega), audOf_yes h3])
          | (have h3 : ¬ audB s a (nth l k) (accP s (nth l k)).2 = true := by simp_all [audB]
             refine ihh (k + 1, m) _ (by simp only; omega) (by simp only; omega) ?_
             set_option maxRecDepth 100000 in simp (maxSteps := 10000000) only [go_sem, Nat.reduceAdd, Nat.reduceSub, Nat.reduceMul, Nat.reduceLT, Nat.reduceLeDiff, Nat.reduceEqDiff, Nat.reduceMod, Nat.reduceDiv, Int.reduceNeg, Int.reduceLE, Int.reduceLT, Int.reduceToNat, Int.reduceEq, Int.reduceNe, ↓reduceIte,  wrap_succ (show k < 9223372036854775807 by omega), audOf_no h3])
    · have hke : k = l.length := by omega
      subst hst
      set_option maxRecDepth 100000 in simp (maxSteps := 10000000) only [go_sem, Nat.reduceAdd, Nat.reduceSub, Nat.reduceMul, Nat.reduceLT, Nat.reduceLeDiff, Nat.reduceEqDiff, Nat.reduceMod, Nat.reduceDiv, Int.reduceNeg, Int.reduceLE, Int.reduceLT, Int.reduceToNat, Int.reduceEq, Int.reduceNe, ↓reduceIte,  hke]
  · skip
    refine good_run [(3, [9, 10, 11, 12, 13, 14, 15, 16, 17, 18, 19, 20, 21, 22, 23, 24, 25, 26, 27, 28, 29, 30, 31, 32, 33, 34, 35, 36, 37, 38, 39, 40, 41, 42, 43, 44, 45, 46, 47, 48, 49, 50, 51, 52, 53, 54, 55, 56, 57, 58, 59, 60, 61, 62, 63, 64, 65, 66, 67, 68, 69, 70, 71, 72, 73, 74, 75, 76, 77, 78, 79], [9, 78, 1702094079])] mixed Try.func47 rfl Try.ntmps47 (rs := [.tmp 6]) rfl (by decide +kernel) (by kernel_rfl) rfl ?_
    rw [startE_eq 81 _ _ _ rfl rfl]
    set_option maxRecDepth 100000 in simp (maxSteps := 10000000) only [go_sem, Nat.reduceAdd, Nat.reduceSub, Nat.reduceMul, Nat.reduceLT, Nat.reduceLeDiff, Nat.reduceEqDiff, Nat.reduceMod, Nat.reduceDiv, Int.reduceNeg, Int.reduceLE, Int.reduceLT, Int.reduceToNat, Int.reduceEq, Int.reduceNe, ↓reduceIte,  hf]
    refine loop_by ([9, 10, 11, 12, 13, 14, 15, 16, 17, 18, 19, 20, 21, 22, 23, 24, 25, 26, 27, 28, 29, 30, 31, 32, 33, 34, 35, 36, 37, 38, 39, 40, 41, 42, 43, 44, 45, 46, 47, 48, 49, 50, 51, 52, 53, 54, 55, 56, 57, 58, 59, 60, 61, 62, 63, 64, 65, 66, 67, 68, 69, 70, 71, 72, 73, 74, 75, 76, 77, 78, 79], [9, 78, 1702094079]) (fun x : Nat × Nat => [(.s 8, .int .i64 (x.1 : Int)), (.s 7, .ref 79 (x.2 + 1)), (.o 9, deadV x.1), (.o 78, deadV x.2), (.o 79, .obj (x.2 + 1) 94 2 false true ((audOf s a l x.1).map encEntry))])
      (fun x => l.length - x.1) (fun x => x.1 ≤ l.length) (0, 0) rfl (Nat.zero_le _) ?_ ?_
    · set_option maxRecDepth 100000 in simp (maxSteps := 10000000) only [go_sem, Nat.reduceAdd, Nat.reduceSub, Nat.reduceMul, Nat.reduceLT, Nat.reduceLeDiff, Nat.reduceEqDiff, Nat.reduceMod, Nat.reduceDiv, Int.reduceNeg, Int.reduceLE, Int.reduceLT, Int.reduceToNat, Int.reduceEq, Int.reduceNe, ↓reduceIte,  show audOf s a l 0 = [] from rfl]
    rintro c' st' hst ⟨k, m⟩ hi ih
    simp only at hi
    set_option maxRecDepth 100000 in simp (maxSteps := 10000000) only [go_sem, Nat.reduceAdd, Nat.reduceSub, Nat.reduceMul, Nat.reduceLT, Nat.reduceLeDiff, Nat.reduceEqDiff, Nat.reduceMod, Nat.reduceDiv, Int.reduceNeg, Int.reduceLE, Int.reduceLT, Int.reduceToNat, Int.reduceEq, Int.reduceNe, ↓reduceIte]
    refine ifI (fun hlt => ?_) fun hlt => ?_
    · have hrk := hr _ (nth_mem hlt)
      have z := reqE_zero (hz k hlt)
      have i1 := z.2.1.1
      have i2 : (nth l k).object < (a.objects.length : Int) := by rw [hk.objs]; exact z.2.1.2.1
      have i3 : (nth l k).object.toNat < a.objects.length := by rw [hk.objs]; exact z.2.1.2.2
      have hp0 : 0 ≤ findIx (fun p => decide (p.name = (nth l k).user)) s.profiles 0 := z.1
      have hp1 : findIx (fun p => decide (p.name = (nth l k).user)) s.profiles 0 < (a.profiles.length : Int) := by rw [hk.profs]; exact (ix_facts hp0).1
      have hp2 : (findIx (fun p => decide (p.name = (nth l k).user)) s.profiles 0).toNat < a.profiles.length := by rw [hk.profs]; exact (ix_facts hp0).2
      have hpp : nth a.profiles (findIx (fun p => decide (p.name = (nth l k).user)) s.profiles 0).toNat = nth a.profiles (profIx s (nth l k).user).toNat := rfl
      set_option maxRecDepth 100000 in simp (maxSteps := 10000000) only [go_sem, Nat.reduceAdd, Nat.reduceSub, Nat.reduceMul, Nat.reduceLT, Nat.reduceLeDiff, Nat.reduceEqDiff, Nat.reduceMod, Nat.reduceDiv, Int.reduceNeg, Int.reduceLE, Int.reduceLT, Int.reduceToNat, Int.reduceEq, Int.reduceNe, ↓reduceIte,  hlt]
      refine callD_of (AccessR_good s (nth l k) hS hrk z.1 z.2.1 z.2.2.1) ?_
      set_option maxRecDepth 100000 in simp (maxSteps := 10000000) only [go_sem, Nat.reduceAdd, Nat.reduceSub, Nat.reduceMul, Nat.reduceLT, Nat.reduceLeDiff, Nat.reduceEqDiff, Nat.reduceMod, Nat.reduceDiv, Int.reduceNeg, Int.reduceLE, Int.reduceLT, Int.reduceToNat, Int.reduceEq, Int.reduceNe, ↓reduceIte]
      refine ⟨by decide +kernel, ?_⟩
      set_option maxRecDepth 100000 in simp (maxSteps := 10000000) only [go_sem, Nat.reduceAdd, Nat.reduceSub, Nat.reduceMul, Nat.reduceLT, Nat.reduceLeDiff, Nat.reduceEqDiff, Nat.reduceMod, Nat.reduceDiv, Int.reduceNeg, Int.reduceLE, Int.reduceLT, Int.reduceToNat, Int.reduceEq, Int.reduceNe, ↓reduceIte,  hlt]
      refine call_of (Includes_good _ _) ?_
      set_option maxRecDepth 100000 in simp (maxSteps := 10000000) only [go_sem, Nat.reduceAdd, Nat.reduceSub, Nat.reduceMul, Nat.reduceLT, Nat.reduceLeDiff, Nat.reduceEqDiff, Nat.reduceMod, Nat.reduceDiv, Int.reduceNeg, Int.reduceLE, Int.reduceLT, Int.reduceToNat, Int.reduceEq, Int.reduceNe, ↓reduceIte,  hlt, i1, i2, i3]
      refine ⟨by decide +kernel, ifI (fun h1 => ?_) fun h1 => ?_⟩
      · have hR : ruleOf s a (nth l k) = nth a.profiles (profIx s (nth l k).user).toNat := by rw [ruleOf, if_pos h1]
        set_option maxRecDepth 100000 in simp (maxSteps := 10000000) only [go_sem, Nat.reduceAdd, Nat.reduceSub, Nat.reduceMul, Nat.reduceLT, Nat.reduceLeDiff, Nat.reduceEqDiff, Nat.reduceMod, Nat.reduceDiv, Int.reduceNeg, Int.reduceLE, Int.reduceLT, Int.reduceToNat, Int.reduceEq, Int.reduceNe, ↓reduceIte,  hlt]
        refine callD_of (User_good s _ hs.profiles) ?_
        set_option maxRecDepth 100000 in simp (maxSteps := 10000000) only [go_sem, Nat.reduceAdd, Nat.reduceSub, Nat.reduceMul, Nat.reduceLT, Nat.reduceLeDiff, Nat.reduceEqDiff, Nat.reduceMod, Nat.reduceDiv, Int.reduceNeg, Int.reduceLE, Int.reduceLT, Int.reduceToNat, Int.reduceEq, Int.reduceNe, ↓reduceIte,  hp0, hp1, hp2, hpp]
        refine ⟨by decide +kernel, ?_⟩
        have hb1 := (aud_fits (s := s) (a := a) (l := l) (k := k) (by omega)).1
        have hb2 := (aud_fits (s := s) (a := a) (l := l) (k := k) (by omega)).2
        have ihh := show id _ from ih
        clear ih hz hr hst
        repeat' (first | (refine ifI (fun hh => ?_) fun hh => ?_) | (set_option maxRecDepth 100000 in simp (maxSteps := 10000000) only [go_sem, Nat.reduceAdd, Nat.reduceSub, Nat.reduceMul, Nat.reduceLT, Nat.reduceLeDiff, Nat.reduceEqDiff, Nat.reduceMod, Nat.reduceDiv, Int.reduceNeg, Int.reduceLE, Int.reduceLT, Int.reduceToNat, Int.reduceEq, Int.reduceNe, ↓reduceIte,  *]))
        all_goals first
          | (have h3 : audB s a (nth l k) (accP s (nth l k)).2 = true := by simp_all [audB]
             refine ihh (k + 1, m + 1) _ (by simp only; omega) (by simp only; omega) ?_
             set_option maxRecDepth 100000 in simp (maxSteps := 10000000) only [go_sem, Nat.reduceAdd, Nat.reduceSub, Nat.reduceMul, Nat.reduceLT, Nat.reduceLeDiff, Nat.reduceEqDiff, Nat.reduceMod, Nat.reduceDiv, Int.reduceNeg, Int.reduceLE, Int.reduceLT, Int.reduceToNat, Int.reduceEq, Int.reduceNe, ↓reduceIte,  wrap_succ (show k < 9223372036854775807 by omega), audOf_yes h3])
          | (have h3 : ¬ audB s a (nth l k) (accP s (nth l k)).2 = true := by simp_all [audB]
             refine ihh (k + 1, m) _ (by simp only; omega) (by simp only; omega) ?_
             set_option maxRecDepth 100000 in simp (maxSteps := 10000000) only [go_sem, Nat.reduceAdd, Nat.reduceSub, Nat.reduceMul, Nat.reduceLT, Nat.reduceLeDiff, Nat.reduceEqDiff, Nat.reduceMod, Nat.reduceDiv, Int.reduceNeg, Int.reduceLE, Int.reduceLT, Int.reduceToNat, Int.reduceEq, Int.reduceNe, ↓reduceIte,  wrap_succ (show k < 9223372036854775807 by omega), audOf_no h3])
      · have hR : ruleOf s a (nth l k) = nth a.objects (nth l k).object.toNat := by rw [ruleOf, if_neg h1]
        have hb1 := (aud_fits (s := s) (a := a) (l := l) (k := k) (by omega)).1
        have hb2 := (aud_fits (s := s) (a := a) (l := l) (k := k) (by omega)).2
        have ihh := show id _ from ih
        clear ih hz hr hst
        repeat' (first | (refine ifI (fun hh => ?_) fun hh => ?_) | (set_option maxRecDepth 100000 in simp (maxSteps := 10000000) only [go_sem, Nat.reduceAdd, Nat.reduceSub, Nat.reduceMul, Nat.reduceLT, Nat.reduceLeDiff, Nat.reduceEqDiff, Nat.reduceMod, Nat.reduceDiv, Int.reduceNeg, Int.reduceLE, Int.reduceLT, Int.reduceToNat, Int.reduceEq, Int.reduceNe, ↓reduceIte,  *]))
        all_goals first
          | (have h3 : audB s a (nth l k) (accP s (nth l k)).2 = true := by simp_all [audB]
             refine ihh (k + 1, m + 1) _ (by simp only; omega) (by simp only; omega) ?_
             set_option maxRecDepth 100000 in simp (maxSteps := 10000000) only [go_sem, Nat.reduceAdd, Nat.reduceSub, Nat.reduceMul, Nat.reduceLT, Nat.reduceLeDiff, Nat.reduceEqDiff, Nat.reduceMod, Nat.reduceDiv, Int.reduceNeg, Int.reduceLE, Int.reduceLT, Int.reduceToNat, Int.reduceEq, Int.reduceNe, ↓reduceIte,  wrap_succ (show k < 9223372036854775807 by omega), audOf_yes h3])
          | (have h3 : ¬ audB s a (nth l k) (accP s (nth l k)).2 = true := by simp_all [audB]
             refine ihh (k + 1, m) _ (by simp only; omega) (by simp only; omega) ?_
             set_option maxRecDepth 100000 in simp (maxSteps := 10000000) only [go_sem, Nat.reduceAdd, Nat.reduceSub, Nat.reduceMul, Nat.reduceLT, Nat.reduceLeDiff, Nat.reduceEqDiff, Nat.reduceMod, Nat.reduceDiv, Int.reduceNeg, Int.reduceLE, Int.reduceLT, Int.reduceToNat, Int.reduceEq, Int.reduceNe, ↓reduceIte,  wrap_succ (show k < 9223372036854775807 by omega), audOf_no h3])
    · have hke : k = l.length := by omega
      subst hst
      set_option maxRecDepth 100000 in simp (maxSteps := 10000000) only [go_sem, Nat.reduceAdd, Nat.reduceSub, Nat.reduceMul, Nat.reduceLT, Nat.reduceLeDiff, Nat.reduceEqDiff, Nat.reduceMod, Nat.reduceDiv, Int.reduceNeg, Int.reduceLE, Int.reduceLT, Int.reduceToNat, Int.reduceEq, Int.reduceNe, ↓reduceIte,  hke]
end Go.Proofs.Ytdmcmfdmnlckdaa.C10
