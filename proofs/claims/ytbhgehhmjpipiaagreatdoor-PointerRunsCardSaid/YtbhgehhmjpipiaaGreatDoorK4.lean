/- Chapter 12: runs of the reference. -/
import Derived.Test.YtbhgehhmjpipiaaGreatDoorK3
import Derived.Test.YtbhgehhmjpipiaaGreatDoorT7
set_option linter.unusedSimpArgs false
set_option linter.unusedVariables false
namespace Go.Proofs.YtbhgehhmjpipiaaGreatDoor.C12
open Go Go.Proofs Go.Proofs.YtbhgehhmjpipiaaGreatDoor.Ab Go.Proofs.YtbhgehhmjpipiaaGreatDoor.C10
set_option maxRecDepth 100000
attribute [local congr] ite_ctx
set_option maxHeartbeats 8000000 in
theorem rRun_good {c : Case} (h : Right c) (l : List COp) (hl : l.length ≤ 1000) (hd : ∀ o ∈ l, o.data.size ≤ 1000000) :
 Ans Tryz.prog 29 [.agg (encCase c), .sl (l.map encCOp)] (.tup [.agg (encSt (runGo (cc c) (startS (cc c)) l)), .sl ((errsGo (cc c) (startS (cc c)) l).map encInt)]) := by
 have hst := rStart_good c h
 have hS0 : runGo (cc c) (startS (cc c)) (l.take 0) = startS (cc c) := rfl
 have hE0 : errsGo (cc c) (startS (cc c)) (l.take 0) = [] := rfl
 have hSl : runGo (cc c) (startS (cc c)) (l.take l.length) = runGo (cc c) (startS (cc c)) l := by rw [List.take_length]
 have hEl : errsGo (cc c) (startS (cc c)) (l.take l.length) = errsGo (cc c) (startS (cc c)) l := by rw [List.take_length]
 rw [← hSl, ← hEl]
 rw [← hS0] at hst
 have hok : ∀ i, StV (cc c) (runGo (cc c) (startS (cc c)) (l.take i)) := fun i => runGo_ok h.aut (start_ok _)
 have hnext : ∀ i, i < l.length → runGo (cc c) (startS (cc c)) (l.take (i + 1)) = nextS (cc c) (runGo (cc c) (startS (cc c)) (l.take i)) (nth l i) := fun i hi => by rw [take_snoc hi, runGo_snoc]
 have herr : ∀ i, i < l.length → errsGo (cc c) (startS (cc c)) (l.take (i + 1)) = errsGo (cc c) (startS (cc c)) (l.take i) ++ [(stepS (cc c) (runGo (cc c) (startS (cc c)) (l.take i)) (nth l i)).2] := fun i hi => by rw [take_snoc hi, errsGo_snoc]
 have hlen : ∀ i, i ≤ l.length → (errsGo (cc c) (startS (cc c)) (l.take i)).length = i := fun i hi => by rw [errsGo_len, List.length_take]; omega
 generalize hSd : (fun i => runGo (cc c) (startS (cc c)) (l.take i)) = S at *
 generalize hEd : (fun i => errsGo (cc c) (startS (cc c)) (l.take i)) = E at *
 have S_ : ∀ i, runGo (cc c) (startS (cc c)) (l.take i) = S i := fun i => by rw [← hSd]
 have E_ : ∀ i, errsGo (cc c) (startS (cc c)) (l.take i) = E i := fun i => by rw [← hEd]
 simp only [S_, E_] at *
 clear S_ E_ hSd hEd hSl hEl hS0
 refine good_run [(4, [9, 10, 13, 14, 15, 16, 17, 18, 19, 20, 21, 22, 23, 24, 25, 26, 27, 28, 29, 30, 31, 32, 33, 34, 35], [9, 34, 1701003035])] mixed Tryz.func29 rfl Tryz.ntmps29 (rs := [.cell 4 37, .tmp 5]) rfl (by decide +kernel) (by kernel_rfl) rfl ?_
 rw [startE_eq 38 _ _ _ rfl rfl]
 simp only [go_sem, seval]
 refine call_of (hst) ?_
 simp only [go_sem, seval]
 refine loop_by ([9, 10, 13, 14, 15, 16, 17, 18, 19, 20, 21, 22, 23, 24, 25, 26, 27, 28, 29, 30, 31, 32, 33, 34, 35], [9, 34, 1701003035]) (fun i : Nat => [(.s 8, .int .i64 (i : Int)), (.o 6, .obj 1 37 2 false false [[.sl ((S i).jobs.map encStg), .sl ((S i).spaces.map encStg)]]), (.o 9, deadV i), (.o 34, deadV i), (.o 35, .obj (i + 1) 3 1 false true ((E i).map encInt)), (.s 7, .ref 35 (i + 1))]) (fun i => l.length - i) (fun i => i ≤ l.length) 0 rfl (Nat.zero_le _) ?_ ?_
 · simp only [go_sem, seval, hE0]
 rintro c' st' hst2 i hi ih
 simp only [go_sem, seval]
 refine ifI (fun hlt => ?_) fun hlt => ?_
 · have hlt' : i < l.length := by omega
   have hps := rstep_good h (hok i) (nth l i) (hd _ (nth_mem hlt'))
   have hn := hnext i hlt'
   have hr := herr i hlt'
   have hle := hlen i (by omega)
   unfold nextS at hn
   generalize stepS (cc c) (S i) (nth l i) = R at hps hn hr
   have hr2 : List.map encInt (E (i + 1)) = List.map encInt (E i) ++ [[.int .i64 R.2]] := by rw [hr, List.map_append]; rfl
   refine Classical.byCases (fun hz : R.2 = 0 => ?_) fun hz => ?_
   · rw [if_pos hz] at hn
     rw [hz] at hr2
     have hps2 : RS c (S i) (nth l i) (.agg (encSt R.1)) 0 := by
      have : stR R = .agg (encSt R.1) := by unfold stR; rw [if_pos hz]
      rw [this, hz] at hps; exact hps
     rw [← hn] at hps2
     simp only [go_sem, seval, hlt, hlt']
     refine callD_of (hps2) ?_
     simp only [go_sem, seval, hle, show (i + 1) * 8 ≤ 140737488355328 by omega, show i + 1 ≤ maxLen by unfold maxLen; omega]
     refine ⟨by decide +kernel, ?_⟩
     refine ih (i + 1) _ (by omega) (by omega) ?_
     simp only [go_sem, seval, wrap_succ (show i < 9223372036854775807 by omega), hr2]
   · rw [if_neg hz] at hn
     have hps2 : RS c (S i) (nth l i) (.agg [.nils, .nils]) R.2 := by
      have : stR R = .agg [.nils, .nils] := by unfold stR; rw [if_neg hz]
      rw [this] at hps; exact hps
     generalize R.2 = e at hps2 hr2 hz
     have het := eq_false hz
     simp only [go_sem, seval, hlt, hlt']
     refine callD_of (hps2) ?_
     simp only [go_sem, seval, het, decide_false, hle, show (i + 1) * 8 ≤ 140737488355328 by omega, show i + 1 ≤ maxLen by unfold maxLen; omega]
     refine ⟨by decide +kernel, ?_⟩
     refine ih (i + 1) _ (by omega) (by omega) ?_
     simp only [go_sem, seval, wrap_succ (show i < 9223372036854775807 by omega), hr2, hn]
 · have hin : i = l.length := by omega
   subst hst2
   simp only [go_sem, seval, hlt]
   rw [hin]
   exact ⟨⟨rfl, rfl⟩, rfl⟩
end Go.Proofs.YtbhgehhmjpipiaaGreatDoor.C12
