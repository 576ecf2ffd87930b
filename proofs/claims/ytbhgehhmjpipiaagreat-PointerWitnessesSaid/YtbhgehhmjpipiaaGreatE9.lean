/- Chapter 12: who can pass pointers to whom, by the reference. -/
import Derived.Test.YtbhgehhmjpipiaaGreatE8b
namespace Go.Proofs.YtbhgehhmjpipiaaGreat.C12
open Go Go.Proofs Go.Proofs.YtbhgehhmjpipiaaGreat.Ab Go.Proofs.YtbhgehhmjpipiaaGreat.C10
set_option maxRecDepth 100000
set_option linter.unusedSimpArgs false
set_option linter.unusedVariables false
attribute [local congr] ite_ctx
theorem isChannel_good (c : Case) (x : Cap) (n : Int) (hb : 0 ≤ x.object ∧ x.object < (c.sec.objects.length : Int)) : Ans Tryz.prog 87 [.agg (encCase c), .agg (encCap x), .int .i64 n] (.bool ((cc c).chan x n)) := by
  have hE : (cc c).chan x n = (decide (x.kind = 1) && spB c x.object && incB x.auth n) := rfl
  have hsp := IsSpace_good c x.object hb
  have hin := Includes_good x.auth n
  generalize (cc c).chan x n = r at hE
  refine Classical.byCases (fun h1 : x.kind = 1 => ?_) fun h1 => ?_
  case refine_2 =>
    have ht : (x.kind = 1) = False := eq_false h1
    rw [decide_eq_false h1, Bool.false_and, Bool.false_and] at hE
    rw [hE]
    refine good_run [] mixed Tryz.func87 rfl Tryz.ntmps87 (rs := [.tmp 6]) rfl (by decide +kernel) (by kernel_rfl) rfl ?_
    rw [startE_eq 22 _ _ _ rfl rfl]
    simp only [go_sem, seval, ht, decide_false]
  have ht : (x.kind = 1) = True := eq_true h1
  rw [decide_eq_true h1, Bool.true_and] at hE
  cases h2 : spB c x.object with
  | false =>
    rw [h2] at hsp
    rw [h2, Bool.false_and] at hE
    rw [hE]
    refine good_run [] mixed Tryz.func87 rfl Tryz.ntmps87 (rs := [.tmp 6]) rfl (by decide +kernel) (by kernel_rfl) rfl ?_
    rw [startE_eq 22 _ _ _ rfl rfl]
    simp only [go_sem, seval, ht, decide_true]
    refine call_of (hsp) ?_
    simp only [go_sem, seval]
  | true =>
    rw [h2] at hsp
    rw [h2, Bool.true_and] at hE
    rw [hE]
    refine good_run [] mixed Tryz.func87 rfl Tryz.ntmps87 (rs := [.tmp 6]) rfl (by decide +kernel) (by kernel_rfl) rfl ?_
    rw [startE_eq 22 _ _ _ rfl rfl]
    simp only [go_sem, seval, ht, decide_true]
    refine call_of (hsp) ?_
    simp only [go_sem, seval]
    refine call_of (hin) ?_
    simp only [go_sem, seval]
/-- All capabilities of a list are of objects that are there. -/
def InObj (c : Case) (l : List Cap) : Prop := ∀ x ∈ l, 0 ≤ x.object ∧ x.object < (c.sec.objects.length : Int)
def pairB (c : Case) (a b : Int) (w r : Cap) : Bool := decide (w.job = a) && decide (r.job = b) && decide (w.object = r.object) && (cc c).chan w 128 && (cc c).chan r 32
theorem passes_eq (c : Case) (l : List Cap) (a b : Int) : passes (cc c) l a b = l.any fun w => l.any fun r => pairB c a b w r := rfl
set_option maxHeartbeats 8000000 in
theorem Passes_good (c : Case) (l : List Cap) (a b : Int) (hl : l.length ≤ 1000000) (hO : InObj c l) : Ans Tryz.prog 48 [.agg (encCase c), .sl (l.map encCap), .int .i64 a, .int .i64 b] (.bool (passes (cc c) l a b)) := by
  rw [passes_eq]
  generalize hR : (l.any fun w => l.any fun r => pairB c a b w r) = R
  refine good_run [(5, [8, 11, 12, 19, 20, 21, 22, 23, 24, 25, 26, 27, 28, 29, 30, 31, 32, 33, 34, 35, 36, 37, 38, 39, 40, 41, 42, 43, 44, 45, 46, 47, 48, 49, 50, 51, 52, 53, 54, 55, 56, 57, 58, 59], [11, 12]), (2, [8, 10, 11, 12, 13, 14, 15, 16, 17, 18, 19, 20, 21, 22, 23, 24, 25, 26, 27, 28, 29, 30, 31, 32, 33, 34, 35, 36, 37, 38, 39, 40, 41, 42, 43, 44, 45, 46, 47, 48, 49, 50, 51, 52, 53, 54, 55, 56, 57, 58, 59], [11, 12])] mixed Tryz.func48 rfl Tryz.ntmps48 (rs := [.tmp 8]) rfl (by decide +kernel) (by kernel_rfl) rfl ?_
  rw [startE_eq 60 _ _ _ rfl rfl]
  simp only [go_sem, seval]
  refine loop_by ([8, 10, 11, 12, 13, 14, 15, 16, 17, 18, 19, 20, 21, 22, 23, 24, 25, 26, 27, 28, 29, 30, 31, 32, 33, 34, 35, 36, 37, 38, 39, 40, 41, 42, 43, 44, 45, 46, 47, 48, 49, 50, 51, 52, 53, 54, 55, 56, 57, 58, 59], [11, 12]) (fun z : Nat × Nat => [(.s 9, .int .i64 (z.1 : Int)), (.o 11, deadV z.2), (.o 12, deadV z.2)]) (fun z => l.length - z.1) (fun z => z.1 ≤ l.length ∧ R = (l.drop z.1).any fun w => l.any fun r => pairB c a b w r) (0, 0) rfl ⟨Nat.zero_le _, hR.symm⟩ ?_ ?_
  · simp only [go_sem, seval]
    try rfl
  rintro c' st' hst ⟨i, v⟩ ⟨hi, hf⟩ ih
  simp only at hi hf ih ⊢
  simp only [go_sem, seval]
  refine ifI (fun hlt => ?_) fun hlt => ?_
  case refine_2 =>
    subst hst
    simp only [go_sem, seval, hlt]
    rw [hf, List.drop_eq_nil_of_le (by omega)]; rfl
  have hi' : i < l.length := by omega
  have hqi : (List.map encCap l)[i]? = some (encCap (nth l i)) := at_map hi'
  have hdi := drop_nth hi'
  simp only [go_sem, seval, hlt]
  have ihh := show id _ from ih
  clear ih
  refine loop_by ([8, 11, 12, 19, 20, 21, 22, 23, 24, 25, 26, 27, 28, 29, 30, 31, 32, 33, 34, 35, 36, 37, 38, 39, 40, 41, 42, 43, 44, 45, 46, 47, 48, 49, 50, 51, 52, 53, 54, 55, 56, 57, 58, 59], [11, 12]) (fun z : Nat × Nat => [(.s 10, .int .i64 (z.1 : Int)), (.o 11, deadV z.2), (.o 12, deadV z.2)]) (fun z => l.length - z.1) (fun z => z.1 ≤ l.length ∧ R = (((l.drop z.1).any fun r => pairB c a b (nth l i) r) || (l.drop (i + 1)).any fun w => l.any fun r => pairB c a b w r)) (0, v) rfl ⟨Nat.zero_le _, by rw [hf, hdi, List.any_cons]; rfl⟩ ?_ ?_
  · simp only [go_sem, seval]
    try rfl
  rintro c2 st2 hst2 ⟨k, u⟩ ⟨hk, hf2⟩ ih2
  simp only at hk hf2 ih2 ⊢
  simp only [go_sem, seval]
  refine ifI (fun hkl => ?_) fun hkl => ?_
  case refine_2 =>
    subst hst2
    simp only [go_sem, seval, hkl]
    refine ihh (i + 1, u) _ ⟨by simp only; omega, by rw [hf2, List.drop_eq_nil_of_le (show l.length ≤ k by omega)]; rfl⟩ (by simp only; omega) ?_
    simp only [go_sem, seval, wrap_succ (show i < 9223372036854775807 by omega)]
  have hk' : k < l.length := by omega
  have hdk := drop_nth hk'
  have hsk : pairB c a b (nth l i) (nth l k) = false → R = (((l.drop (k + 1)).any fun r => pairB c a b (nth l i) r) || (l.drop (i + 1)).any fun w => l.any fun r => pairB c a b w r) := fun q => by
    rw [hf2, hdk, List.any_cons, q, Bool.false_or]
  have hhit : pairB c a b (nth l i) (nth l k) = true → R = true := fun q => by
    rw [hf2, hdk, List.any_cons, q, Bool.true_or, Bool.true_or]
  have hw := isChannel_good c (nth l i) 128 (hO _ (nth_mem hi'))
  have hr := isChannel_good c (nth l k) 32 (hO _ (nth_mem hk'))
  simp only [go_sem, seval, hkl, hi', hk']
  refine ⟨by decide +kernel, ?_⟩
  refine Classical.byCases (fun h1 : (nth l i).job = a => ?_) fun h1 => ?_
  case refine_2 =>
    have h1t := eq_false h1
    simp only [go_sem, seval, h1t, decide_false]
    refine ih2 (k + 1, u + 1) _ ⟨by simp only; omega, hsk (by simp [pairB, h1])⟩ (by simp only; omega) ?_
    simp only [go_sem, seval, wrap_succ (show k < 9223372036854775807 by omega)]
  have h1t := eq_true h1
  refine Classical.byCases (fun h2 : (nth l k).job = b => ?_) fun h2 => ?_
  case refine_2 =>
    have h2t := eq_false h2
    simp only [go_sem, seval, h1t, decide_true, h2t, decide_false]
    refine ih2 (k + 1, u + 1) _ ⟨by simp only; omega, hsk (by simp [pairB, h2])⟩ (by simp only; omega) ?_
    simp only [go_sem, seval, wrap_succ (show k < 9223372036854775807 by omega)]
  have h2t := eq_true h2
  refine Classical.byCases (fun h3 : (nth l i).object = (nth l k).object => ?_) fun h3 => ?_
  case refine_2 =>
    have h3t := eq_false h3
    simp only [go_sem, seval, h1t, h2t, decide_true, h3t, decide_false]
    refine ih2 (k + 1, u + 1) _ ⟨by simp only; omega, hsk (by simp [pairB, h3])⟩ (by simp only; omega) ?_
    simp only [go_sem, seval, wrap_succ (show k < 9223372036854775807 by omega)]
  have h3t := eq_true h3
  cases h4 : (cc c).chan (nth l i) 128 with
  | false =>
    rw [h4] at hw
    simp only [go_sem, seval, h1t, h2t, h3t, decide_true]
    refine call_of (hw) ?_
    simp only [go_sem, seval]
    refine ih2 (k + 1, u + 1) _ ⟨by simp only; omega, hsk (by simp [pairB, h4])⟩ (by simp only; omega) ?_
    simp only [go_sem, seval, wrap_succ (show k < 9223372036854775807 by omega)]
  | true =>
    rw [h4] at hw
    cases h5 : (cc c).chan (nth l k) 32 with
    | false =>
      rw [h5] at hr
      simp only [go_sem, seval, h1t, h2t, h3t, decide_true]
      refine call_of (hw) ?_
      simp only [go_sem, seval]
      refine call_of (hr) ?_
      simp only [go_sem, seval]
      refine ih2 (k + 1, u + 1) _ ⟨by simp only; omega, hsk (by simp [pairB, h5])⟩ (by simp only; omega) ?_
      simp only [go_sem, seval, wrap_succ (show k < 9223372036854775807 by omega)]
    | true =>
      rw [h5] at hr
      simp only [go_sem, seval, h1t, h2t, h3t, decide_true]
      refine call_of (hw) ?_
      simp only [go_sem, seval]
      refine call_of (hr) ?_
      simp only [go_sem, seval]
      rw [hhit (by simp [pairB, h1, h2, h3, h4, h5])]
end Go.Proofs.YtbhgehhmjpipiaaGreat.C12
