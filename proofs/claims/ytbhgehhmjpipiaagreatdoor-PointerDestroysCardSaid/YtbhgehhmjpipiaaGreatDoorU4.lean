/- Chapter 12: the law that bytes only destroy. -/
import Derived.Test.YtbhgehhmjpipiaaGreatDoorH3
import Derived.Test.YtbhgehhmjpipiaaGreatDoorT8
import Derived.Test.YtbhgehhmjpipiaaGreatDoorG9
import Derived.Test.YtbhgehhmjpipiaaGreatDoorP37d
set_option linter.unusedSimpArgs false
set_option linter.unusedVariables false
namespace Go.Proofs.YtbhgehhmjpipiaaGreatDoor.C12
open Go Go.Proofs Go.Proofs.YtbhgehhmjpipiaaGreatDoor.Ab Go.Proofs.YtbhgehhmjpipiaaGreatDoor.C10
set_option maxRecDepth 100000
attribute [local congr] ite_ctx
set_option maxHeartbeats 8000000 in
theorem PointerDestroys_good (c : Case) (s : St) (o : COp) : Ans Tryz.prog 6 [.agg (encCase c), .agg (encSt s), .agg (encCOp o)] (.bool true) := by
 have haw := awake_good
 have hfw := few12_good c
 have hfs := fewState_good s
 cases hf : few12 c with
 | false =>
   rw [hf] at hfw
   refine good_run [(15, [6, 95, 96, 97, 98, 99, 100, 101, 102, 103, 104, 105, 106, 107], [])] mixed Tryz.func6 rfl Tryz.ntmps6 (rs := [.tmp 6]) rfl (by decide +kernel) (by kernel_rfl) rfl ?_
   rw [startE_eq 108 _ _ _ rfl rfl]
   simp only [go_sem, seval]
   refine call_of (haw) ?_
   simp only [go_sem, seval, Bool.not_true]
   refine call_of (hfw) ?_
   simp only [go_sem, seval, Bool.not_true, Bool.not_false]
 | true =>
 rw [hf] at hfw
 cases hg : fewS s with
 | false =>
   rw [hg] at hfs
   refine good_run [(15, [6, 95, 96, 97, 98, 99, 100, 101, 102, 103, 104, 105, 106, 107], [])] mixed Tryz.func6 rfl Tryz.ntmps6 (rs := [.tmp 6]) rfl (by decide +kernel) (by kernel_rfl) rfl ?_
   rw [startE_eq 108 _ _ _ rfl rfl]
   simp only [go_sem, seval]
   refine call_of (haw) ?_
   simp only [go_sem, seval, Bool.not_true]
   refine call_of (hfw) ?_
   simp only [go_sem, seval, Bool.not_true, Bool.not_false]
   refine call_of (hfs) ?_
   simp only [go_sem, seval, Bool.not_true, Bool.not_false]
 | true =>
 rw [hg] at hfs
 refine Classical.byCases (fun hd : (o.data.size : Int) > 1200 => ?_) fun hd => ?_
 · have hdt := eq_true hd
   refine good_run [(15, [6, 95, 96, 97, 98, 99, 100, 101, 102, 103, 104, 105, 106, 107], [])] mixed Tryz.func6 rfl Tryz.ntmps6 (rs := [.tmp 6]) rfl (by decide +kernel) (by kernel_rfl) rfl ?_
   rw [startE_eq 108 _ _ _ rfl rfl]
   simp only [go_sem, seval]
   refine call_of (haw) ?_
   simp only [go_sem, seval, Bool.not_true]
   refine call_of (hfw) ?_
   simp only [go_sem, seval, Bool.not_true, Bool.not_false]
   refine call_of (hfs) ?_
   simp only [go_sem, seval, Bool.not_true, Bool.not_false, hdt, decide_true]
 have hdt := eq_false hd
 obtain ⟨hs, hu⟩ := few12_fit hf
 have hS := few_small hg
 have hE := rStateErr_good c s hs (by omega) hS
 refine Classical.byCases (fun he : (stE c s).2 = 0 => ?_) fun he => ?_
 case refine_2 =>
  generalize (stE c s).2 = e at hE he
  have het := eq_false he
  refine good_run [(15, [6, 95, 96, 97, 98, 99, 100, 101, 102, 103, 104, 105, 106, 107], [])] mixed Tryz.func6 rfl Tryz.ntmps6 (rs := [.tmp 6]) rfl (by decide +kernel) (by kernel_rfl) rfl ?_
  rw [startE_eq 108 _ _ _ rfl rfl]
  simp only [go_sem, seval]
  refine call_of (haw) ?_
  simp only [go_sem, seval, Bool.not_true]
  refine call_of (hfw) ?_
  simp only [go_sem, seval, Bool.not_true, Bool.not_false]
  refine call_of (hfs) ?_
  simp only [go_sem, seval, Bool.not_true, Bool.not_false, hdt, decide_false]
  refine call_of (hE) ?_
  simp only [go_sem, seval, het, not_false_eq_true, decide_true]
 have hown := Own12_good c hs (by omega)
 have hos := OwnState_good s hS.jobs hS.spaces (fun x hx => (hS.job x hx).2) (fun x hx => (hS.space x hx).2)
 obtain ⟨hv, hc⟩ := stv_of he
 have h := right_of hs hc
 have hP := Step_good o hs (by omega) hS he (by omega)
 have hH := HeldIn_good hs (by omega) hS he
 rw [he] at hE
 refine Classical.byCases (fun hk : o.kind = 1 ∨ o.kind = 3 ∨ o.kind = 8 => ?_) fun hk => ?_
 case refine_2 =>
  have k1 := eq_false (show ¬ o.kind = 1 by omega)
  have k3 := eq_false (show ¬ o.kind = 3 by omega)
  have k8 := eq_false (show ¬ o.kind = 8 by omega)
  refine good_run [(15, [6, 95, 96, 97, 98, 99, 100, 101, 102, 103, 104, 105, 106, 107], [])] mixed Tryz.func6 rfl Tryz.ntmps6 (rs := [.tmp 6]) rfl (by decide +kernel) (by kernel_rfl) rfl ?_
  rw [startE_eq 108 _ _ _ rfl rfl]
  simp only [go_sem, seval]
  refine call_of (haw) ?_
  simp only [go_sem, seval, Bool.not_true]
  refine call_of (hfw) ?_
  simp only [go_sem, seval, Bool.not_true, Bool.not_false]
  refine call_of (hfs) ?_
  simp only [go_sem, seval, Bool.not_true, Bool.not_false, hdt, decide_false]
  refine call_of (hE) ?_
  simp only [go_sem, seval, k1, k3, k8, not_true_eq_false, not_false_eq_true, decide_true, decide_false]
 have hok : (stepS (cc c) s o).2 = 0 → StV (cc c) (stepS (cc c) s o).1 := fun q => step_ok h.aut hv q
 have hdes : (stepS (cc c) s o).2 = 0 → ∀ x, Holds (stepS (cc c) s o).1 (cc c).J x → Holds s (cc c).J x := fun q x hx => destroys h.aut hv q hk hx
 generalize stepS (cc c) s o = R at hP hok hdes
 have key : ∀ k : Int, o.kind = k → (k = 1 ∨ k = 3 ∨ k = 8) → Ans Tryz.prog 6 [.agg (encCase c), .agg (encSt s), .agg (encCOp o)] (.bool true) := by
  intro k hkk hk2
  have q1 : (o.kind = 1) = (k = 1) := by rw [hkk]
  have q3 : (o.kind = 3) = (k = 3) := by rw [hkk]
  have q8 : (o.kind = 8) = (k = 8) := by rw [hkk]
  refine Classical.byCases (fun hz : R.2 = 0 => ?_) fun hz => ?_
  · have e : stR R = .agg (encSt R.1) := by unfold stR; rw [if_pos hz]
    rw [e, hz] at hP
    have hvR := hok hz
    have hfR := fewState_good R.1
    rw [stv_few h hvR] at hfR
    have hSR := few_small (stv_few h hvR)
    have hHR := HeldIn_good hs (by omega) hSR (ste_of hc hvR)
    have hsub : ∀ x ∈ rHeld R.1, x ∈ rHeld s := fun x hx => by
     rw [rHeld_mem, hvR.nj] at hx
     rw [rHeld_mem, hv.nj]
     exact hdes hz x hx
    have hle := sorted_le (rHeld_sorted R.1) hsub
    have hlB := held_len (jobs_ok h hv)
    generalize R.1 = T at hP hfR hHR hsub hle
    generalize rHeld T = A at hHR hsub hle
    generalize rHeld s = B at hH hsub hle hlB
    have hgt := eq_false (show ¬ (A.length : Int) > (B.length : Int) by omega)
    rcases hk2 with rfl | rfl | rfl
    all_goals
     refine good_run [(15, [6, 95, 96, 97, 98, 99, 100, 101, 102, 103, 104, 105, 106, 107], [])] mixed Tryz.func6 rfl Tryz.ntmps6 (rs := [.tmp 6]) rfl (by decide +kernel) (by kernel_rfl) rfl ?_
     rw [startE_eq 108 _ _ _ rfl rfl]
     simp only [go_sem, seval]
     refine call_of (haw) ?_
     simp only [go_sem, seval, Bool.not_true]
     refine call_of (hfw) ?_
     simp only [go_sem, seval, Bool.not_true, Bool.not_false]
     refine call_of (hfs) ?_
     simp only [go_sem, seval, Bool.not_true, Bool.not_false, hdt, decide_false]
     refine call_of (hE) ?_
     simp only [go_sem, seval, q1, q3, q8, not_true_eq_false, not_false_eq_true, decide_true, decide_false]
     refine callD_of (hown) ?_
     simp only [go_sem, seval]
     refine callD_of (hos) ?_
     simp only [go_sem, seval]
     refine callD_of (hP) ?_
     simp only [go_sem, seval]
     refine ⟨by decide +kernel, ?_⟩
     refine call_of (hfR) ?_
     simp only [go_sem, seval, Bool.not_true]
     refine callD_of (hown) ?_
     simp only [go_sem, seval]
     refine callD_of (hos) ?_
     simp only [go_sem, seval]
     refine callD_of (hH) ?_
     simp only [go_sem, seval]
     refine ⟨by decide +kernel, ?_⟩
     refine callD_of (hown) ?_
     simp only [go_sem, seval]
     refine callD_of (hHR) ?_
     simp only [go_sem, seval, hgt, decide_false]
     refine ⟨by decide +kernel, ?_⟩
     refine loop_by ([6, 95, 96, 97, 98, 99, 100, 101, 102, 103, 104, 105, 106, 107], []) (fun i : Nat => [(.s 13, .int .i64 (i : Int))]) (fun i => A.length - i) (fun i => i ≤ A.length) 0 rfl (Nat.zero_le _) rfl ?_
     rintro c' st' hst i hi ih
     simp only [go_sem, seval]
     refine ifI (fun hlt => ?_) fun hlt => ?_
     case refine_2 =>
      subst hst
      simp only [go_sem, seval, hlt]
     have hlt' : i < A.length := by omega
     have hHas := Has_good B (nth A i) hlB
     rw [decide_eq_true (hsub _ (nth_mem hlt'))] at hHas
     simp only [go_sem, seval, hlt, hlt']
     refine call_of (hHas) ?_
     simp only [go_sem, seval, Bool.not_true]
     refine ih (i + 1) _ (by omega) (by omega) ?_
     simp only [go_sem, seval, wrap_succ (show i < 9223372036854775807 by omega)]
  · have e : stR R = .agg [.nils, .nils] := by unfold stR; rw [if_neg hz]
    rw [e] at hP
    have hN := none_good
    generalize R.2 = z at hP hz
    have hzt := eq_false hz
    rcases hk2 with rfl | rfl | rfl
    all_goals
     refine good_run [(15, [6, 95, 96, 97, 98, 99, 100, 101, 102, 103, 104, 105, 106, 107], [])] mixed Tryz.func6 rfl Tryz.ntmps6 (rs := [.tmp 6]) rfl (by decide +kernel) (by kernel_rfl) rfl ?_
     rw [startE_eq 108 _ _ _ rfl rfl]
     simp only [go_sem, seval]
     refine call_of (haw) ?_
     simp only [go_sem, seval, Bool.not_true]
     refine call_of (hfw) ?_
     simp only [go_sem, seval, Bool.not_true, Bool.not_false]
     refine call_of (hfs) ?_
     simp only [go_sem, seval, Bool.not_true, Bool.not_false, hdt, decide_false]
     refine call_of (hE) ?_
     simp only [go_sem, seval, q1, q3, q8, not_true_eq_false, not_false_eq_true, decide_true, decide_false]
     refine callD_of (hown) ?_
     simp only [go_sem, seval]
     refine callD_of (hos) ?_
     simp only [go_sem, seval]
     refine callD_of (hP) ?_
     simp only [go_sem, seval, hzt, not_false_eq_true, decide_true]
     refine ⟨by decide +kernel, ?_⟩
     refine call_of (hN) ?_
     simp only [go_sem, seval]
 exact key o.kind rfl hk
end Go.Proofs.YtbhgehhmjpipiaaGreatDoor.C12
