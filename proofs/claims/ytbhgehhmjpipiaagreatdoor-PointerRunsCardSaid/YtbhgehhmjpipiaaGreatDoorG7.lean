/- Chapter 12: the errors of states, by the program and by the reference. -/
import Derived.Test.YtbhgehhmjpipiaaGreatDoorG6
set_option linter.unusedSimpArgs false
set_option linter.unusedVariables false
namespace Go.Proofs.YtbhgehhmjpipiaaGreatDoor.C12
open Go Go.Proofs Go.Proofs.YtbhgehhmjpipiaaGreatDoor.Ab Go.Proofs.YtbhgehhmjpipiaaGreatDoor.C10
set_option maxRecDepth 100000
attribute [local congr] ite_ctx
def scanG (C : CC) (q : Nat → Nat) (l : List Stg) (base : Nat) (fin : Int × Int) : Nat → Nat → Int × Int
 | 0, _ => fin
 | n + 1, i => if stoE C (nth l i) (q i) = 0 then scanG C q l base fin n (i + 1) else (((base + i : Nat) : Int), stoE C (nth l i) (q i))
def scanB (C : CC) (s : St) (i : Nat) : Int × Int := scanG C (quadsC C) s.spaces s.jobs.length ((s.jobs.length : Int), 0) (s.spaces.length - i) i
def scanA (C : CC) (s : St) (i : Nat) : Int × Int := scanG C (fun _ => 60) s.jobs 0 (scanB C s 0) (s.jobs.length - i) i
def stE (c : Case) (s : St) : Int × Int := if ¬ (caseE c).2 = 0 then (0, (caseE c).2) else if ¬ (s.jobs.length = c.users.length ∧ s.spaces.length = c.sec.objects.length) then (0, 6) else scanA (cc c) s 0
theorem scanA_step {C : CC} {s : St} {i : Nat} (h : i < s.jobs.length) : scanA C s i = if stoE C (nth s.jobs i) 60 = 0 then scanA C s (i + 1) else ((i : Int), stoE C (nth s.jobs i) 60) := by
 unfold scanA
 rw [show s.jobs.length - i = (s.jobs.length - (i + 1)) + 1 by omega, scanG, Nat.zero_add]
theorem scanA_end {C : CC} {s : St} {i : Nat} (h : s.jobs.length ≤ i) : scanA C s i = scanB C s 0 := by
 unfold scanA
 rw [show s.jobs.length - i = 0 by omega]; rfl
theorem scanB_step {C : CC} {s : St} {i : Nat} (h : i < s.spaces.length) : scanB C s i = if stoE C (nth s.spaces i) (quadsC C i) = 0 then scanB C s (i + 1) else (((s.jobs.length + i : Nat) : Int), stoE C (nth s.spaces i) (quadsC C i)) := by
 unfold scanB
 rw [show s.spaces.length - i = (s.spaces.length - (i + 1)) + 1 by omega, scanG]
theorem scanB_end {C : CC} {s : St} {i : Nat} (h : s.spaces.length ≤ i) : scanB C s i = ((s.jobs.length : Int), 0) := by
 unfold scanB
 rw [show s.spaces.length - i = 0 by omega]; rfl
structure SmallSt (s : St) : Prop where
 jobs : s.jobs.length ≤ 1000
 spaces : s.spaces.length ≤ 1000
 job : ∀ x ∈ s.jobs, x.bytes.size ≤ 2000 ∧ x.tags.length ≤ 1000
 space : ∀ x ∈ s.spaces, x.bytes.size ≤ 2000 ∧ x.tags.length ≤ 1000
set_option maxHeartbeats 16000000 in
theorem CheckState_good (c : Case) (s : St) (hs : Fit c.sec) (hu : c.users.length ≤ 1000) (hS : SmallSt s) : Ans Tryz.prog 82 [.agg (encCase c), .agg (encSt s)] (.tup [.int .i64 (stE c s).1, .int .i64 (stE c s).2]) := by
 have hE := caseErr_good c hs hu
 have hdef : stE c s = if ¬ (caseE c).2 = 0 then (0, (caseE c).2) else if ¬ (s.jobs.length = c.users.length ∧ s.spaces.length = c.sec.objects.length) then (0, 6) else scanA (cc c) s 0 := rfl
 generalize stE c s = R at hdef
 have hj1 := hS.jobs
 have hj2 := hS.spaces
 refine Classical.byCases (fun he : (caseE c).2 = 0 => ?_) fun he => ?_
 case refine_2 =>
  rw [if_pos he] at hdef
  subst hdef
  generalize (caseE c).2 = e at hE he
  have het := eq_false he
  have hf : ∀ y, Ans Tryz.prog 33 [.sl [[.int .i64 e], [.int .i64 y]]] (.int .i64 e) := fun y => by
   have := pfirst2_good e y
   have q : firstE [e, y] = e := by simp [firstE, he]
   rwa [q] at this
  refine Classical.byCases (fun hJ : (s.jobs.length : Int) = (c.users.length : Int) => ?_) fun hJ => ?_
  · have hJt := eq_true hJ
    refine Classical.byCases (fun hO : (s.spaces.length : Int) = (c.sec.objects.length : Int) => ?_) fun hO => ?_
    · have hOt := eq_true hO
      refine good_run [(12, [4, 5, 10, 11, 12, 58, 59, 60, 61, 62, 63, 64, 65, 66, 67, 68, 69, 70, 71, 72, 73, 74, 75, 76], [11, 11]), (5, [4, 5, 7, 8, 9, 42, 43, 44, 45, 46, 47, 48, 49, 50, 51, 52, 53], [8, 8])] mixed Tryz.func82 rfl Tryz.ntmps82 (rs := [.tmp 4, .tmp 5]) rfl (by decide +kernel) (by kernel_rfl) rfl ?_
      rw [startE_eq 80 _ _ _ rfl rfl]
      simp only [go_sem, seval]
      refine callD_of (hE) ?_
      simp only [go_sem, seval, hJt, hOt, not_true_eq_false, decide_false]
      refine callD_of (condF 6) ?_
      simp only [go_sem, seval]
      refine callD_of (hf _) ?_
      simp only [go_sem, seval]
      refine ⟨by decide +kernel, ?_⟩
      simp only [go_sem, seval, het, not_false_eq_true, decide_true]
    · have hOt := eq_false hO
      refine good_run [(12, [4, 5, 10, 11, 12, 58, 59, 60, 61, 62, 63, 64, 65, 66, 67, 68, 69, 70, 71, 72, 73, 74, 75, 76], [11, 11]), (5, [4, 5, 7, 8, 9, 42, 43, 44, 45, 46, 47, 48, 49, 50, 51, 52, 53], [8, 8])] mixed Tryz.func82 rfl Tryz.ntmps82 (rs := [.tmp 4, .tmp 5]) rfl (by decide +kernel) (by kernel_rfl) rfl ?_
      rw [startE_eq 80 _ _ _ rfl rfl]
      simp only [go_sem, seval]
      refine callD_of (hE) ?_
      simp only [go_sem, seval, hJt, hOt, not_true_eq_false, decide_false, not_false_eq_true, decide_true]
      refine callD_of (condT 6) ?_
      simp only [go_sem, seval]
      refine callD_of (hf _) ?_
      simp only [go_sem, seval]
      refine ⟨by decide +kernel, ?_⟩
      simp only [go_sem, seval, het, not_false_eq_true, decide_true]
  · have hJt := eq_false hJ
    refine good_run [(12, [4, 5, 10, 11, 12, 58, 59, 60, 61, 62, 63, 64, 65, 66, 67, 68, 69, 70, 71, 72, 73, 74, 75, 76], [11, 11]), (5, [4, 5, 7, 8, 9, 42, 43, 44, 45, 46, 47, 48, 49, 50, 51, 52, 53], [8, 8])] mixed Tryz.func82 rfl Tryz.ntmps82 (rs := [.tmp 4, .tmp 5]) rfl (by decide +kernel) (by kernel_rfl) rfl ?_
    rw [startE_eq 80 _ _ _ rfl rfl]
    simp only [go_sem, seval]
    refine callD_of (hE) ?_
    simp only [go_sem, seval, hJt, not_false_eq_true, decide_true]
    refine callD_of (condT 6) ?_
    simp only [go_sem, seval]
    refine callD_of (hf _) ?_
    simp only [go_sem, seval]
    refine ⟨by decide +kernel, ?_⟩
    simp only [go_sem, seval, het, not_false_eq_true, decide_true]
 rw [he] at hE
 rw [if_neg (not_not_intro he)] at hdef
 have h := right_of hs he
 have hU := h.J
 have hB := h.O
 refine Classical.byCases (fun hJ : (s.jobs.length : Int) = (c.users.length : Int) => ?_) fun hJ => ?_
 case refine_2 =>
  rw [if_pos (by omega)] at hdef
  subst hdef
  have hJt := eq_false hJ
  refine good_run [(12, [4, 5, 10, 11, 12, 58, 59, 60, 61, 62, 63, 64, 65, 66, 67, 68, 69, 70, 71, 72, 73, 74, 75, 76], [11, 11]), (5, [4, 5, 7, 8, 9, 42, 43, 44, 45, 46, 47, 48, 49, 50, 51, 52, 53], [8, 8])] mixed Tryz.func82 rfl Tryz.ntmps82 (rs := [.tmp 4, .tmp 5]) rfl (by decide +kernel) (by kernel_rfl) rfl ?_
  rw [startE_eq 80 _ _ _ rfl rfl]
  simp only [go_sem, seval]
  refine callD_of (hE) ?_
  simp only [go_sem, seval, hJt, not_false_eq_true, decide_true]
  refine callD_of (condT 6) ?_
  simp only [go_sem, seval]
  refine callD_of (first2_0 6) ?_
  simp only [go_sem, seval]
  decide +kernel
 have hJt := eq_true hJ
 refine Classical.byCases (fun hO : (s.spaces.length : Int) = (c.sec.objects.length : Int) => ?_) fun hO => ?_
 case refine_2 =>
  rw [if_pos (by omega)] at hdef
  subst hdef
  have hOt := eq_false hO
  refine good_run [(12, [4, 5, 10, 11, 12, 58, 59, 60, 61, 62, 63, 64, 65, 66, 67, 68, 69, 70, 71, 72, 73, 74, 75, 76], [11, 11]), (5, [4, 5, 7, 8, 9, 42, 43, 44, 45, 46, 47, 48, 49, 50, 51, 52, 53], [8, 8])] mixed Tryz.func82 rfl Tryz.ntmps82 (rs := [.tmp 4, .tmp 5]) rfl (by decide +kernel) (by kernel_rfl) rfl ?_
  rw [startE_eq 80 _ _ _ rfl rfl]
  simp only [go_sem, seval]
  refine callD_of (hE) ?_
  simp only [go_sem, seval, hJt, hOt, not_true_eq_false, decide_false, not_false_eq_true, decide_true]
  refine callD_of (condT 6) ?_
  simp only [go_sem, seval]
  refine callD_of (first2_0 6) ?_
  simp only [go_sem, seval]
  decide +kernel
 have hOt := eq_true hO
 rw [if_neg (by omega)] at hdef
 refine good_run [(12, [4, 5, 10, 11, 12, 58, 59, 60, 61, 62, 63, 64, 65, 66, 67, 68, 69, 70, 71, 72, 73, 74, 75, 76], [11, 11]), (5, [4, 5, 7, 8, 9, 42, 43, 44, 45, 46, 47, 48, 49, 50, 51, 52, 53], [8, 8])] mixed Tryz.func82 rfl Tryz.ntmps82 (rs := [.tmp 4, .tmp 5]) rfl (by decide +kernel) (by kernel_rfl) rfl ?_
 rw [startE_eq 80 _ _ _ rfl rfl]
 simp only [go_sem, seval]
 refine callD_of (hE) ?_
 simp only [go_sem, seval, hJt, hOt, not_true_eq_false, decide_false]
 refine callD_of (condF 6) ?_
 simp only [go_sem, seval]
 refine callD_of (first2_0 0) ?_
 simp only [go_sem, seval]
 refine ⟨by decide +kernel, ?_⟩
 refine loop_by ([4, 5, 7, 8, 9, 42, 43, 44, 45, 46, 47, 48, 49, 50, 51, 52, 53], [8, 8]) (fun i : Nat => [(.s 41, .int .i64 (i : Int)), (.o 8, deadV i)]) (fun i => s.jobs.length - i) (fun i => i ≤ s.jobs.length ∧ R = scanA (cc c) s i) 0 rfl ⟨Nat.zero_le _, hdef⟩ ?_ ?_
 · simp only [go_sem, seval]
 rintro c' st' hst i ⟨hi, hf⟩ ih
 simp only [go_sem, seval]
 refine ifI (fun hlt => ?_) fun hlt => ?_
 · have hlt' : i < s.jobs.length := by omega
   have hg := hS.job _ (nth_mem hlt')
   have hq := storageErr_good c (nth s.jobs i) 60 (by omega) (by omega) (by decide) (by omega)
   rw [scanA_step hlt'] at hf
   generalize stoE (cc c) (nth s.jobs i) 60 = e at hq hf
   simp only [go_sem, seval, hlt, hlt']
   refine Classical.byCases (fun he2 : e = 0 => ?_) fun he2 => ?_
   · rw [if_pos he2] at hf
     have het := eq_true he2
     refine call_of (hq) ?_
     simp only [go_sem, seval, het, not_true_eq_false, decide_false]
     refine ih (i + 1) _ ⟨by omega, hf⟩ (by omega) ?_
     simp only [go_sem, seval, wrap_succ (show i < 9223372036854775807 by omega)]
   · rw [if_neg he2] at hf
     have het := eq_false he2
     refine call_of (hq) ?_
     simp only [go_sem, seval, het, not_false_eq_true, decide_true]
     rw [hf]
     try exact ⟨rfl, rfl⟩
 rw [scanA_end (by omega)] at hf
 subst hst
 clear ih
 simp only [go_sem, seval, hlt]
 refine loop_by ([4, 5, 10, 11, 12, 58, 59, 60, 61, 62, 63, 64, 65, 66, 67, 68, 69, 70, 71, 72, 73, 74, 75, 76], [11, 11]) (fun k : Nat => [(.s 57, .int .i64 (k : Int)), (.o 11, deadV k)]) (fun k => s.spaces.length - k) (fun k => k ≤ s.spaces.length ∧ R = scanB (cc c) s k) 0 rfl ⟨Nat.zero_le _, hf⟩ ?_ ?_
 · simp only [go_sem, seval]
 rintro c' st' hst k ⟨hk, hf⟩ ih
 simp only [go_sem, seval]
 refine ifI (fun hlk => ?_) fun hlk => ?_
 · have hlk' : k < s.spaces.length := by omega
   have hg := hS.space _ (nth_mem hlk')
   have hqd := quads_le (cc c) k
   have hqq := quadsOf_good c k (by omega)
   have hq := storageErr_good c (nth s.spaces k) (quadsC (cc c) k) (by omega) (by omega) (by omega) (by omega)
   rw [scanB_step hlk'] at hf
   generalize stoE (cc c) (nth s.spaces k) (quadsC (cc c) k) = e at hq hf
   have w1 : IntKind.wrap .i64 ((s.jobs.length : Int) + (k : Int)) = ((s.jobs.length + k : Nat) : Int) := by rw [wrap_i64 (by omega) (by omega)]; omega
   simp only [go_sem, seval, hlk, hlk']
   refine Classical.byCases (fun he2 : e = 0 => ?_) fun he2 => ?_
   · rw [if_pos he2] at hf
     have het := eq_true he2
     refine callD_of (hqq) ?_
     simp only [go_sem, seval]
     refine callD_of (hq) ?_
     simp only [go_sem, seval]
     refine ⟨by decide +kernel, ?_⟩
     simp only [go_sem, seval, het, not_true_eq_false, decide_false]
     refine ih (k + 1) _ ⟨by omega, hf⟩ (by omega) ?_
     simp only [go_sem, seval, wrap_succ (show k < 9223372036854775807 by omega)]
   · rw [if_neg he2] at hf
     have het := eq_false he2
     refine callD_of (hqq) ?_
     simp only [go_sem, seval]
     refine callD_of (hq) ?_
     simp only [go_sem, seval]
     refine ⟨by decide +kernel, ?_⟩
     simp only [go_sem, seval, het, not_false_eq_true, decide_true, w1]
     rw [hf]
     try exact ⟨rfl, rfl⟩
 · rw [scanB_end (by omega)] at hf
   subst hst
   simp only [go_sem, seval, hlk]
   rw [hf]
   try exact ⟨rfl, rfl⟩
end Go.Proofs.YtbhgehhmjpipiaaGreatDoor.C12
