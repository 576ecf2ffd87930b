/- Chapter 6: runs of writes: for one to five units. Printed by gen_a14.py. -/
import Derived.Test.YtdfdagfgkijpcaaA13
namespace Go.Proofs.Ytdfdagfgkijpcaa.C06
open Go Go.Proofs Go.Proofs.Ytdfdagfgkijpcaa.Ab
set_option linter.unusedSimpArgs false
set_option linter.unusedVariables false
attribute [local congr] ite_ctx

theorem runR_none {len : Nat} {d : Disk} {Y : List UW} {i : Nat} {l : List SW} {r : AV} (hlt : i < l.length) (h : r = runR len d Y i (l.drop i)) (hx : d.writes (nth l i).sector.toNat (nth l i).bytes = none) : r = .tup [zD, .nils, .int .i64 (i : Int), .int .i64 31] := by
  rw [h, drop_nth hlt, runR, hx]
theorem runR_some {len : Nat} {d : Disk} {Y x : List UW} {i : Nat} {l : List SW} {r : AV} (hlt : i < l.length) (h : r = runR len d Y i (l.drop i)) (hx : d.writes (nth l i).sector.toNat (nth l i).bytes = some x) : r = runR len (made d x) (Y ++ x) (i + 1) (l.drop (i + 1)) := by
  rw [h, drop_nth hlt, runR, hx]
theorem runR_end {len : Nat} {d : Disk} {Y : List UW} {i : Nat} {l : List SW} {r : AV} (hi : l.length ≤ i) (h : r = runR len d Y i (l.drop i)) : r = .tup [.agg (encDisk d), .sl (Y.map encUW), .int .i64 (len : Int), .int .i64 0] := by
  rw [h, List.drop_eq_nil_of_le hi, runR]
theorem runR_pure : ∀ (l : List SW) (len : Nat) (d : Disk) (Y : List UW) (i : Nat), (runR len d Y i l).pureR = true
  | [], _, _, _, _ => rfl
  | w :: l, len, d, Y, i => by
    unfold runR
    split
    · exact runR_pure l len _ _ _
    · rfl

theorem units_1 {d : Disk} (h : d.n = 1) : d = ⟨d.kind, d.size, [d.at 0]⟩ := by
  refine Disk.ext_at rfl rfl h fun j hj => ?_
  rw [h] at hj
  have : j = 0 := by omega
  subst this; rfl
theorem units_2 {d : Disk} (h : d.n = 2) : d = ⟨d.kind, d.size, [d.at 0, d.at 1]⟩ := by
  refine Disk.ext_at rfl rfl h fun j hj => ?_
  rw [h] at hj
  have : j = 0 ∨ j = 1 := by omega
  rcases this with rfl | rfl <;> rfl
theorem units_3 {d : Disk} (h : d.n = 3) : d = ⟨d.kind, d.size, [d.at 0, d.at 1, d.at 2]⟩ := by
  refine Disk.ext_at rfl rfl h fun j hj => ?_
  rw [h] at hj
  have : j = 0 ∨ j = 1 ∨ j = 2 := by omega
  rcases this with rfl | rfl | rfl <;> rfl
theorem units_4 {d : Disk} (h : d.n = 4) : d = ⟨d.kind, d.size, [d.at 0, d.at 1, d.at 2, d.at 3]⟩ := by
  refine Disk.ext_at rfl rfl h fun j hj => ?_
  rw [h] at hj
  have : j = 0 ∨ j = 1 ∨ j = 2 ∨ j = 3 := by omega
  rcases this with rfl | rfl | rfl | rfl <;> rfl
theorem units_5 {d : Disk} (h : d.n = 5) : d = ⟨d.kind, d.size, [d.at 0, d.at 1, d.at 2, d.at 3, d.at 4]⟩ := by
  refine Disk.ext_at rfl rfl h fun j hj => ?_
  rw [h] at hj
  have : j = 0 ∨ j = 1 ∨ j = 2 ∨ j = 3 ∨ j = 4 := by omega
  rcases this with rfl | rfl | rfl | rfl | rfl <;> rfl
set_option maxHeartbeats 16000000 in
theorem run_1 (d : Disk) (hf : FitD d) (hn : d.n = 1) (l : List SW) (hl : l.length ≤ 40) (h0 : (dE d).2 = 0) (hw : ∀ w ∈ l, wE d w = 0) : Ans Try.prog 43 [.agg (encDisk d), .sl (l.map encSW)] (runR l.length d [] 0 l) := by
  have hde := diskErr_good d hf
  rw [h0] at hde
  have hO := okd_of h0
  have hcn := hO.cnt
  have hcg := count_good d (by have := hf.n; omega) (by have := hO.size; omega) (by have := hO.size; omega)
  have hw1 : IntKind.wrap .i64 (cntI d - 1) = cntI d - 1 := wrap_i64 (by omega) (by omega)
  have h40 : ¬ (40 : Int) < (l.length : Int) := by omega
  have hfl := runR_pure l l.length d [] 0
  generalize hr : runR l.length d [] 0 l = r at hfl
  have hlens : ∀ j, j < d.n → (d.at j).secs.length ≤ 1000000 := fun j hj => by have := hf.m _ (nth_mem (l := d.units) hj); exact Nat.le_trans this (by decide)
  have how := owned_1 d.kind d.size (d.at 0) (hlens 0 (by omega))
  rw [← units_1 hn] at how
  refine good_run [(3000025, [], [103000000000000001000053, 103000000000000001001053, 103000000000000001002053, 103000000000000001003053, 103000000000000001004053]), (17, [5, 6, 7, 13, 14, 15, 16, 57, 58, 59, 60, 61, 62, 63, 64, 65, 66, 67, 68, 69, 70, 71, 72, 73, 74, 75, 76, 77], [14, 20, 2203064076]), (7, [5, 6, 7, 9, 10, 30, 31, 32, 33, 34, 35, 36, 37, 38, 39, 40, 41, 42, 43, 44, 45, 46, 47, 48, 49, 50, 51], [10, 10])] mixed Try.func43 rfl Try.ntmps43 (rs := [.cell 4 24, .tmp 5, .tmp 6, .tmp 7]) rfl (by decide +kernel) (by kernel_rfl) (hfl) ?_
  rw [startE_eq 82 _ _ _ rfl rfl]
  set_option maxRecDepth 100000 in simp (maxSteps := 10000000) only [go_sem, Nat.reduceAdd, Nat.reduceSub, Nat.reduceMul, Nat.reduceLT, Nat.reduceLeDiff, Nat.reduceEqDiff, Nat.reduceMod, Nat.reduceDiv, Int.reduceNeg, Int.reduceLE, Int.reduceLT, Int.reduceToNat, Int.reduceEq, Int.reduceNe, ↓reduceIte]
  refine call_of (hde) ?_
  set_option maxRecDepth 100000 in simp (maxSteps := 10000000) only [go_sem, Nat.reduceAdd, Nat.reduceSub, Nat.reduceMul, Nat.reduceLT, Nat.reduceLeDiff, Nat.reduceEqDiff, Nat.reduceMod, Nat.reduceDiv, Int.reduceNeg, Int.reduceLE, Int.reduceLT, Int.reduceToNat, Int.reduceEq, Int.reduceNe, ↓reduceIte,  h40, decide_false]
  refine loop_by ([5, 6, 7, 9, 10, 30, 31, 32, 33, 34, 35, 36, 37, 38, 39, 40, 41, 42, 43, 44, 45, 46, 47, 48, 49, 50, 51], [10, 10]) (fun i : Nat => [(.s 29, .int .i64 (i : Int)), (.o 10, deadV i)]) (fun i => l.length - i) (fun i => i ≤ l.length) 0 rfl (Nat.zero_le _) rfl ?_
  rintro c' st' hst m hm ih
  set_option maxRecDepth 100000 in simp (maxSteps := 10000000) only [go_sem, Nat.reduceAdd, Nat.reduceSub, Nat.reduceMul, Nat.reduceLT, Nat.reduceLeDiff, Nat.reduceEqDiff, Nat.reduceMod, Nat.reduceDiv, Int.reduceNeg, Int.reduceLE, Int.reduceLT, Int.reduceToNat, Int.reduceEq, Int.reduceNe, ↓reduceIte]
  refine ifI (fun hlt => ?_) fun hlt => ?_
  · have hwm := hw _ (nth_mem hlt)
    have hin : inB (nth l m).sector 0 (cntI d - 1) = true := by
      apply Classical.byContradiction
      intro q
      rw [wE, if_pos (by simpa using q)] at hwm; cases hwm
    have h16 : ((nth l m).bytes.size : Int) = 16 := by have := (wE_zero hO hwm).2; omega
    set_option maxRecDepth 100000 in simp (maxSteps := 10000000) only [go_sem, Nat.reduceAdd, Nat.reduceSub, Nat.reduceMul, Nat.reduceLT, Nat.reduceLeDiff, Nat.reduceEqDiff, Nat.reduceMod, Nat.reduceDiv, Int.reduceNeg, Int.reduceLE, Int.reduceLT, Int.reduceToNat, Int.reduceEq, Int.reduceNe, ↓reduceIte,  hlt]
    refine callD_of (hcg) ?_
    set_option maxRecDepth 100000 in simp (maxSteps := 10000000) only [go_sem, Nat.reduceAdd, Nat.reduceSub, Nat.reduceMul, Nat.reduceLT, Nat.reduceLeDiff, Nat.reduceEqDiff, Nat.reduceMod, Nat.reduceDiv, Int.reduceNeg, Int.reduceLE, Int.reduceLT, Int.reduceToNat, Int.reduceEq, Int.reduceNe, ↓reduceIte,  hw1]
    refine callD_of (within_good _ _ _) ?_
    set_option maxRecDepth 100000 in simp (maxSteps := 10000000) only [go_sem, Nat.reduceAdd, Nat.reduceSub, Nat.reduceMul, Nat.reduceLT, Nat.reduceLeDiff, Nat.reduceEqDiff, Nat.reduceMod, Nat.reduceDiv, Int.reduceNeg, Int.reduceLE, Int.reduceLT, Int.reduceToNat, Int.reduceEq, Int.reduceNe, ↓reduceIte,  hin, Bool.not_true]
    refine ⟨by decide +kernel, ?_⟩
    set_option maxRecDepth 100000 in simp (maxSteps := 10000000) only [go_sem, Nat.reduceAdd, Nat.reduceSub, Nat.reduceMul, Nat.reduceLT, Nat.reduceLeDiff, Nat.reduceEqDiff, Nat.reduceMod, Nat.reduceDiv, Int.reduceNeg, Int.reduceLE, Int.reduceLT, Int.reduceToNat, Int.reduceEq, Int.reduceNe, ↓reduceIte,  eq_true h16, not_true_eq_false, decide_false]
    refine ih (m + 1) _ (by omega) (by omega) ?_
    set_option maxRecDepth 100000 in simp (maxSteps := 10000000) only [go_sem, Nat.reduceAdd, Nat.reduceSub, Nat.reduceMul, Nat.reduceLT, Nat.reduceLeDiff, Nat.reduceEqDiff, Nat.reduceMod, Nat.reduceDiv, Int.reduceNeg, Int.reduceLE, Int.reduceLT, Int.reduceToNat, Int.reduceEq, Int.reduceNe, ↓reduceIte,  wrap_succ (show m < 9223372036854775807 by omega)]
  subst hst
  clear ih
  set_option maxRecDepth 100000 in simp (maxSteps := 10000000) only [go_sem, Nat.reduceAdd, Nat.reduceSub, Nat.reduceMul, Nat.reduceLT, Nat.reduceLeDiff, Nat.reduceEqDiff, Nat.reduceMod, Nat.reduceDiv, Int.reduceNeg, Int.reduceLE, Int.reduceLT, Int.reduceToNat, Int.reduceEq, Int.reduceNe, ↓reduceIte,  hlt]
  refine callM_of [] [53, 30] (how) ⟨rfl, rfl, rfl, by simp, by simp, by simp, by simp, rfl, rfl, rfl, onodup_of (l := [6, 12]) rfl (by decide)⟩ ?_
  set_option maxRecDepth 100000 in simp (maxSteps := 10000000) only [go_sem, Nat.reduceAdd, Nat.reduceSub, Nat.reduceMul, Nat.reduceLT, Nat.reduceLeDiff, Nat.reduceEqDiff, Nat.reduceMod, Nat.reduceDiv, Int.reduceNeg, Int.reduceLE, Int.reduceLT, Int.reduceToNat, Int.reduceEq, Int.reduceNe, ↓reduceIte]

  refine loop_by ([5, 6, 7, 13, 14, 15, 16, 57, 58, 59, 60, 61, 62, 63, 64, 65, 66, 67, 68, 69, 70, 71, 72, 73, 74, 75, 76, 77], [14, 20, 2203064076]) (fun x : Nat × List UW => [(.s 56, .int .i64 (x.1 : Int)), (.o 14, deadV x.1), (.o 20, deadV x.1), (.o 30, .obj 1 9 1 false true (((made d x.2).at 0).secs.map encStr)), (.o 76, .obj (x.1 + 1) 64 3 false true (x.2.map encUW)), (.s 12, .ref 76 (x.1 + 1))]) (fun x => l.length - x.1)
    (fun x => x.1 ≤ l.length ∧ Okd (made d x.2) ∧ x.2.length ≤ 5 * x.1 ∧ (∀ y ∈ x.2, y.bytes.size = 16) ∧ r = runR l.length (made d x.2) x.2 x.1 (l.drop x.1)) (0, []) rfl ⟨Nat.zero_le _, hO, Nat.zero_le _, fun y hy => (by cases hy), hr.symm⟩ ?_ ?_
  · set_option maxRecDepth 100000 in simp (maxSteps := 10000000) only [go_sem, Nat.reduceAdd, Nat.reduceSub, Nat.reduceMul, Nat.reduceLT, Nat.reduceLeDiff, Nat.reduceEqDiff, Nat.reduceMod, Nat.reduceDiv, Int.reduceNeg, Int.reduceLE, Int.reduceLT, Int.reduceToNat, Int.reduceEq, Int.reduceNe, ↓reduceIte]
    simp [made]
  rintro c' st' hst ⟨i, Y⟩ ⟨hi, hOY, hY5, hY16, hrr⟩ ih
  simp only at hi hOY hY5 hY16 hrr ih ⊢
  have K := keeps_made d Y
  have hnY : (made d Y).n = 1 := K.n.trans hn
  have S := made_state Y d
  have hE : AV.agg (encDisk (made d Y)) = .agg [.int .i64 d.kind, .int .i64 d.size, .sl [[.int .i64 (d.at 0).state, .sl (((made d Y).at 0).secs.map encStr)]]] := by
    conv => lhs; rw [units_1 hnY]
    simp only [encDisk, List.map_cons, List.map_nil, encDU, K.kind, K.size, (S 0 (by omega)).1]
  set_option maxRecDepth 100000 in simp (maxSteps := 10000000) only [go_sem, Nat.reduceAdd, Nat.reduceSub, Nat.reduceMul, Nat.reduceLT, Nat.reduceLeDiff, Nat.reduceEqDiff, Nat.reduceMod, Nat.reduceDiv, Int.reduceNeg, Int.reduceLE, Int.reduceLT, Int.reduceToNat, Int.reduceEq, Int.reduceNe, ↓reduceIte]
  refine ifI (fun hlt => ?_) fun hlt => ?_
  case refine_2 =>
    have hre := runR_end (l := l) (by omega) hrr
    subst hst
    set_option maxRecDepth 100000 in simp (maxSteps := 10000000) only [go_sem, Nat.reduceAdd, Nat.reduceSub, Nat.reduceMul, Nat.reduceLT, Nat.reduceLeDiff, Nat.reduceEqDiff, Nat.reduceMod, Nat.reduceDiv, Int.reduceNeg, Int.reduceLE, Int.reduceLT, Int.reduceToNat, Int.reduceEq, Int.reduceNe, ↓reduceIte,  hlt]
    rw [hre, hE]
  have hwi := wE_zero hO (hw _ (nth_mem hlt))
  have hsI : (((nth l i).sector.toNat : Nat) : Int) = (nth l i).sector := by omega
  have hsc : (nth l i).sector.toNat < (made d Y).count := by rw [K.count]; exact hwi.1.2
  have hWr := writes_good (made d Y) hOY hsc (nth l i).bytes hwi.2
  cases hx : (made d Y).writes (nth l i).sector.toNat (nth l i).bytes with
  | none =>
    rw [WrC, hx] at hWr
    simp only [WrNo] at hWr
    rw [hE, hsI] at hWr
    have hre := runR_none hlt hrr hx
    set_option maxRecDepth 100000 in simp (maxSteps := 10000000) only [go_sem, Nat.reduceAdd, Nat.reduceSub, Nat.reduceMul, Nat.reduceLT, Nat.reduceLeDiff, Nat.reduceEqDiff, Nat.reduceMod, Nat.reduceDiv, Int.reduceNeg, Int.reduceLE, Int.reduceLT, Int.reduceToNat, Int.reduceEq, Int.reduceNe, ↓reduceIte,  hlt]
    refine callV_of (hWr) (by set_option maxRecDepth 100000 in simp (maxSteps := 10000000) only [go_sem, Nat.reduceAdd, Nat.reduceSub, Nat.reduceMul, Nat.reduceLT, Nat.reduceLeDiff, Nat.reduceEqDiff, Nat.reduceMod, Nat.reduceDiv, Int.reduceNeg, Int.reduceLE, Int.reduceLT, Int.reduceToNat, Int.reduceEq, Int.reduceNe, ↓reduceIte]) (by set_option maxRecDepth 100000 in simp (maxSteps := 10000000) only [go_sem, Nat.reduceAdd, Nat.reduceSub, Nat.reduceMul, Nat.reduceLT, Nat.reduceLeDiff, Nat.reduceEqDiff, Nat.reduceMod, Nat.reduceDiv, Int.reduceNeg, Int.reduceLE, Int.reduceLT, Int.reduceToNat, Int.reduceEq, Int.reduceNe, ↓reduceIte]) rfl ?_
    set_option maxRecDepth 100000 in simp (maxSteps := 10000000) only [go_sem, Nat.reduceAdd, Nat.reduceSub, Nat.reduceMul, Nat.reduceLT, Nat.reduceLeDiff, Nat.reduceEqDiff, Nat.reduceMod, Nat.reduceDiv, Int.reduceNeg, Int.reduceLE, Int.reduceLT, Int.reduceToNat, Int.reduceEq, Int.reduceNe, ↓reduceIte,  Bool.not_false]
    rw [hre, zD]
  | some x =>
    rw [WrC, hx] at hWr
    simp only [WrOk] at hWr
    obtain ⟨id, ver, hid, hWr⟩ := hWr
    rw [hE, hsI] at hWr
    have hid2 : (117 ≤ id) = False := eq_false (by omega)
    have hW := writes_ws hOY hsc hwi.2 hx
    have hmd := made_1 d.kind d.size (made d Y) hnY false x (by have := hW.len; omega) hW.ok (d.at 0).state
    have hre := runR_some hlt hrr hx
    set_option maxRecDepth 100000 in simp (maxSteps := 10000000) only [go_sem, Nat.reduceAdd, Nat.reduceSub, Nat.reduceMul, Nat.reduceLT, Nat.reduceLeDiff, Nat.reduceEqDiff, Nat.reduceMod, Nat.reduceDiv, Int.reduceNeg, Int.reduceLE, Int.reduceLT, Int.reduceToNat, Int.reduceEq, Int.reduceNe, ↓reduceIte,  hlt]
    refine callL_of [20] (hWr) ⟨rfl, rfl, by set_option maxRecDepth 100000 in simp (maxSteps := 10000000) only [go_sem, Nat.reduceAdd, Nat.reduceSub, Nat.reduceMul, Nat.reduceLT, Nat.reduceLeDiff, Nat.reduceEqDiff, Nat.reduceMod, Nat.reduceDiv, Int.reduceNeg, Int.reduceLE, Int.reduceLT, Int.reduceToNat, Int.reduceEq, Int.reduceNe, ↓reduceIte], by simp, by set_option maxRecDepth 100000 in simp, rfl, by set_option maxRecDepth 100000 in simp (maxSteps := 10000000) only [go_sem, Nat.reduceAdd, Nat.reduceSub, Nat.reduceMul, Nat.reduceLT, Nat.reduceLeDiff, Nat.reduceEqDiff, Nat.reduceMod, Nat.reduceDiv, Int.reduceNeg, Int.reduceLE, Int.reduceLT, Int.reduceToNat, Int.reduceEq, Int.reduceNe, ↓reduceIte], rfl, onodup_of (l := [id]) rfl (by simp)⟩ ?_
    set_option maxRecDepth 100000 in simp (maxSteps := 10000000) only [go_sem, Nat.reduceAdd, Nat.reduceSub, Nat.reduceMul, Nat.reduceLT, Nat.reduceLeDiff, Nat.reduceEqDiff, Nat.reduceMod, Nat.reduceDiv, Int.reduceNeg, Int.reduceLE, Int.reduceLT, Int.reduceToNat, Int.reduceEq, Int.reduceNe, ↓reduceIte,  hid2, Bool.not_true]
    refine callM_of [53, 30, 20] [53, 30, 20] (hmd) ⟨by simp [renA, ren1, invM, posOf, verOf, AV.cellP, Env.go], rfl, rfl, by simp, by simp, by simp, by simp, rfl, rfl, rfl, onodup_of (l := [25, 26, 27]) rfl (by decide)⟩ ?_
    set_option maxRecDepth 100000 in simp (maxSteps := 10000000) only [go_sem, Nat.reduceAdd, Nat.reduceSub, Nat.reduceMul, Nat.reduceLT, Nat.reduceLeDiff, Nat.reduceEqDiff, Nat.reduceMod, Nat.reduceDiv, Int.reduceNeg, Int.reduceLE, Int.reduceLT, Int.reduceToNat, Int.reduceEq, Int.reduceNe, ↓reduceIte,  show (Y.length + x.length) * 32 ≤ 140737488355328 by have := hW.len; omega, show Y.length + x.length ≤ maxLen by have := hW.len; unfold maxLen; omega]
    refine ih (i + 1, Y ++ x) _ ⟨by simp only; omega, by simp only; rw [made_append]; exact hOY.made hW.s16, by simp only [List.length_append]; have := hW.len; omega, fun y hy => ?_, by simp only; rw [made_append]; exact hre⟩ (by simp only; omega) ?_
    · rcases List.mem_append.1 hy with hy | hy
      · exact hY16 y hy
      · exact hW.s16 y hy
    set_option maxRecDepth 100000 in simp (maxSteps := 10000000) only [go_sem, Nat.reduceAdd, Nat.reduceSub, Nat.reduceMul, Nat.reduceLT, Nat.reduceLeDiff, Nat.reduceEqDiff, Nat.reduceMod, Nat.reduceDiv, Int.reduceNeg, Int.reduceLE, Int.reduceLT, Int.reduceToNat, Int.reduceEq, Int.reduceNe, ↓reduceIte,  wrap_succ (show i < 9223372036854775807 by omega), made_append]

set_option maxHeartbeats 16000000 in
theorem run_2 (d : Disk) (hf : FitD d) (hn : d.n = 2) (l : List SW) (hl : l.length ≤ 40) (h0 : (dE d).2 = 0) (hw : ∀ w ∈ l, wE d w = 0) : Ans Try.prog 43 [.agg (encDisk d), .sl (l.map encSW)] (runR l.length d [] 0 l) := by
  have hde := diskErr_good d hf
  rw [h0] at hde
  have hO := okd_of h0
  have hcn := hO.cnt
  have hcg := count_good d (by have := hf.n; omega) (by have := hO.size; omega) (by have := hO.size; omega)
  have hw1 : IntKind.wrap .i64 (cntI d - 1) = cntI d - 1 := wrap_i64 (by omega) (by omega)
  have h40 : ¬ (40 : Int) < (l.length : Int) := by omega
  have hfl := runR_pure l l.length d [] 0
  generalize hr : runR l.length d [] 0 l = r at hfl
  have hlens : ∀ j, j < d.n → (d.at j).secs.length ≤ 1000000 := fun j hj => by have := hf.m _ (nth_mem (l := d.units) hj); exact Nat.le_trans this (by decide)
  have how := owned_2 d.kind d.size (d.at 0) (d.at 1) (hlens 0 (by omega)) (hlens 1 (by omega))
  rw [← units_2 hn] at how
  refine good_run [(3000025, [], [103000000000000001000053, 103000000000000001001053, 103000000000000001002053, 103000000000000001003053, 103000000000000001004053]), (17, [5, 6, 7, 13, 14, 15, 16, 57, 58, 59, 60, 61, 62, 63, 64, 65, 66, 67, 68, 69, 70, 71, 72, 73, 74, 75, 76, 77], [14, 20, 2203064076]), (7, [5, 6, 7, 9, 10, 30, 31, 32, 33, 34, 35, 36, 37, 38, 39, 40, 41, 42, 43, 44, 45, 46, 47, 48, 49, 50, 51], [10, 10])] mixed Try.func43 rfl Try.ntmps43 (rs := [.cell 4 24, .tmp 5, .tmp 6, .tmp 7]) rfl (by decide +kernel) (by kernel_rfl) (hfl) ?_
  rw [startE_eq 82 _ _ _ rfl rfl]
  set_option maxRecDepth 100000 in simp (maxSteps := 10000000) only [go_sem, Nat.reduceAdd, Nat.reduceSub, Nat.reduceMul, Nat.reduceLT, Nat.reduceLeDiff, Nat.reduceEqDiff, Nat.reduceMod, Nat.reduceDiv, Int.reduceNeg, Int.reduceLE, Int.reduceLT, Int.reduceToNat, Int.reduceEq, Int.reduceNe, ↓reduceIte]
  refine call_of (hde) ?_
  set_option maxRecDepth 100000 in simp (maxSteps := 10000000) only [go_sem, Nat.reduceAdd, Nat.reduceSub, Nat.reduceMul, Nat.reduceLT, Nat.reduceLeDiff, Nat.reduceEqDiff, Nat.reduceMod, Nat.reduceDiv, Int.reduceNeg, Int.reduceLE, Int.reduceLT, Int.reduceToNat, Int.reduceEq, Int.reduceNe, ↓reduceIte,  h40, decide_false]
  refine loop_by ([5, 6, 7, 9, 10, 30, 31, 32, 33, 34, 35, 36, 37, 38, 39, 40, 41, 42, 43, 44, 45, 46, 47, 48, 49, 50, 51], [10, 10]) (fun i : Nat => [(.s 29, .int .i64 (i : Int)), (.o 10, deadV i)]) (fun i => l.length - i) (fun i => i ≤ l.length) 0 rfl (Nat.zero_le _) rfl ?_
  rintro c' st' hst m hm ih
  set_option maxRecDepth 100000 in simp (maxSteps := 10000000) only [go_sem, Nat.reduceAdd, Nat.reduceSub, Nat.reduceMul, Nat.reduceLT, Nat.reduceLeDiff, Nat.reduceEqDiff, Nat.reduceMod, Nat.reduceDiv, Int.reduceNeg, Int.reduceLE, Int.reduceLT, Int.reduceToNat, Int.reduceEq, Int.reduceNe, ↓reduceIte]
  refine ifI (fun hlt => ?_) fun hlt => ?_
  · have hwm := hw _ (nth_mem hlt)
    have hin : inB (nth l m).sector 0 (cntI d - 1) = true := by
      apply Classical.byContradiction
      intro q
      rw [wE, if_pos (by simpa using q)] at hwm; cases hwm
    have h16 : ((nth l m).bytes.size : Int) = 16 := by have := (wE_zero hO hwm).2; omega
    set_option maxRecDepth 100000 in simp (maxSteps := 10000000) only [go_sem, Nat.reduceAdd, Nat.reduceSub, Nat.reduceMul, Nat.reduceLT, Nat.reduceLeDiff, Nat.reduceEqDiff, Nat.reduceMod, Nat.reduceDiv, Int.reduceNeg, Int.reduceLE, Int.reduceLT, Int.reduceToNat, Int.reduceEq, Int.reduceNe, ↓reduceIte,  hlt]
    refine callD_of (hcg) ?_
    set_option maxRecDepth 100000 in simp (maxSteps := 10000000) only [go_sem, Nat.reduceAdd, Nat.reduceSub, Nat.reduceMul, Nat.reduceLT, Nat.reduceLeDiff, Nat.reduceEqDiff, Nat.reduceMod, Nat.reduceDiv, Int.reduceNeg, Int.reduceLE, Int.reduceLT, Int.reduceToNat, Int.reduceEq, Int.reduceNe, ↓reduceIte,  hw1]
    refine callD_of (within_good _ _ _) ?_
    set_option maxRecDepth 100000 in simp (maxSteps := 10000000) only [go_sem, Nat.reduceAdd, Nat.reduceSub, Nat.reduceMul, Nat.reduceLT, Nat.reduceLeDiff, Nat.reduceEqDiff, Nat.reduceMod, Nat.reduceDiv, Int.reduceNeg, Int.reduceLE, Int.reduceLT, Int.reduceToNat, Int.reduceEq, Int.reduceNe, ↓reduceIte,  hin, Bool.not_true]
    refine ⟨by decide +kernel, ?_⟩
    set_option maxRecDepth 100000 in simp (maxSteps := 10000000) only [go_sem, Nat.reduceAdd, Nat.reduceSub, Nat.reduceMul, Nat.reduceLT, Nat.reduceLeDiff, Nat.reduceEqDiff, Nat.reduceMod, Nat.reduceDiv, Int.reduceNeg, Int.reduceLE, Int.reduceLT, Int.reduceToNat, Int.reduceEq, Int.reduceNe, ↓reduceIte,  eq_true h16, not_true_eq_false, decide_false]
    refine ih (m + 1) _ (by omega) (by omega) ?_
    set_option maxRecDepth 100000 in simp (maxSteps := 10000000) only [go_sem, Nat.reduceAdd, Nat.reduceSub, Nat.reduceMul, Nat.reduceLT, Nat.reduceLeDiff, Nat.reduceEqDiff, Nat.reduceMod, Nat.reduceDiv, Int.reduceNeg, Int.reduceLE, Int.reduceLT, Int.reduceToNat, Int.reduceEq, Int.reduceNe, ↓reduceIte,  wrap_succ (show m < 9223372036854775807 by omega)]
  subst hst
  clear ih
  set_option maxRecDepth 100000 in simp (maxSteps := 10000000) only [go_sem, Nat.reduceAdd, Nat.reduceSub, Nat.reduceMul, Nat.reduceLT, Nat.reduceLeDiff, Nat.reduceEqDiff, Nat.reduceMod, Nat.reduceDiv, Int.reduceNeg, Int.reduceLE, Int.reduceLT, Int.reduceToNat, Int.reduceEq, Int.reduceNe, ↓reduceIte,  hlt]
  refine callM_of [] [53, 30, 31] (how) ⟨rfl, rfl, rfl, by simp, by simp, by simp, by simp, rfl, rfl, rfl, onodup_of (l := [6, 12, 13]) rfl (by decide)⟩ ?_
  set_option maxRecDepth 100000 in simp (maxSteps := 10000000) only [go_sem, Nat.reduceAdd, Nat.reduceSub, Nat.reduceMul, Nat.reduceLT, Nat.reduceLeDiff, Nat.reduceEqDiff, Nat.reduceMod, Nat.reduceDiv, Int.reduceNeg, Int.reduceLE, Int.reduceLT, Int.reduceToNat, Int.reduceEq, Int.reduceNe, ↓reduceIte]

  refine loop_by ([5, 6, 7, 13, 14, 15, 16, 57, 58, 59, 60, 61, 62, 63, 64, 65, 66, 67, 68, 69, 70, 71, 72, 73, 74, 75, 76, 77], [14, 20, 2203064076]) (fun x : Nat × List UW => [(.s 56, .int .i64 (x.1 : Int)), (.o 14, deadV x.1), (.o 20, deadV x.1), (.o 30, .obj 1 9 1 false true (((made d x.2).at 0).secs.map encStr)), (.o 31, .obj 1 9 1 false true (((made d x.2).at 1).secs.map encStr)), (.o 76, .obj (x.1 + 1) 64 3 false true (x.2.map encUW)), (.s 12, .ref 76 (x.1 + 1))]) (fun x => l.length - x.1)
    (fun x => x.1 ≤ l.length ∧ Okd (made d x.2) ∧ x.2.length ≤ 5 * x.1 ∧ (∀ y ∈ x.2, y.bytes.size = 16) ∧ r = runR l.length (made d x.2) x.2 x.1 (l.drop x.1)) (0, []) rfl ⟨Nat.zero_le _, hO, Nat.zero_le _, fun y hy => (by cases hy), hr.symm⟩ ?_ ?_
  · set_option maxRecDepth 100000 in simp (maxSteps := 10000000) only [go_sem, Nat.reduceAdd, Nat.reduceSub, Nat.reduceMul, Nat.reduceLT, Nat.reduceLeDiff, Nat.reduceEqDiff, Nat.reduceMod, Nat.reduceDiv, Int.reduceNeg, Int.reduceLE, Int.reduceLT, Int.reduceToNat, Int.reduceEq, Int.reduceNe, ↓reduceIte]
    simp [made]
  rintro c' st' hst ⟨i, Y⟩ ⟨hi, hOY, hY5, hY16, hrr⟩ ih
  simp only at hi hOY hY5 hY16 hrr ih ⊢
  have K := keeps_made d Y
  have hnY : (made d Y).n = 2 := K.n.trans hn
  have S := made_state Y d
  have hE : AV.agg (encDisk (made d Y)) = .agg [.int .i64 d.kind, .int .i64 d.size, .sl [[.int .i64 (d.at 0).state, .sl (((made d Y).at 0).secs.map encStr)], [.int .i64 (d.at 1).state, .sl (((made d Y).at 1).secs.map encStr)]]] := by
    conv => lhs; rw [units_2 hnY]
    simp only [encDisk, List.map_cons, List.map_nil, encDU, K.kind, K.size, (S 0 (by omega)).1, (S 1 (by omega)).1]
  set_option maxRecDepth 100000 in simp (maxSteps := 10000000) only [go_sem, Nat.reduceAdd, Nat.reduceSub, Nat.reduceMul, Nat.reduceLT, Nat.reduceLeDiff, Nat.reduceEqDiff, Nat.reduceMod, Nat.reduceDiv, Int.reduceNeg, Int.reduceLE, Int.reduceLT, Int.reduceToNat, Int.reduceEq, Int.reduceNe, ↓reduceIte]
  refine ifI (fun hlt => ?_) fun hlt => ?_
  case refine_2 =>
    have hre := runR_end (l := l) (by omega) hrr
    subst hst
    set_option maxRecDepth 100000 in simp (maxSteps := 10000000) only [go_sem, Nat.reduceAdd, Nat.reduceSub, Nat.reduceMul, Nat.reduceLT, Nat.reduceLeDiff, Nat.reduceEqDiff, Nat.reduceMod, Nat.reduceDiv, Int.reduceNeg, Int.reduceLE, Int.reduceLT, Int.reduceToNat, Int.reduceEq, Int.reduceNe, ↓reduceIte,  hlt]
    rw [hre, hE]
  have hwi := wE_zero hO (hw _ (nth_mem hlt))
  have hsI : (((nth l i).sector.toNat : Nat) : Int) = (nth l i).sector := by omega
  have hsc : (nth l i).sector.toNat < (made d Y).count := by rw [K.count]; exact hwi.1.2
  have hWr := writes_good (made d Y) hOY hsc (nth l i).bytes hwi.2
  cases hx : (made d Y).writes (nth l i).sector.toNat (nth l i).bytes with
  | none =>
    rw [WrC, hx] at hWr
    simp only [WrNo] at hWr
    rw [hE, hsI] at hWr
    have hre := runR_none hlt hrr hx
    set_option maxRecDepth 100000 in simp (maxSteps := 10000000) only [go_sem, Nat.reduceAdd, Nat.reduceSub, Nat.reduceMul, Nat.reduceLT, Nat.reduceLeDiff, Nat.reduceEqDiff, Nat.reduceMod, Nat.reduceDiv, Int.reduceNeg, Int.reduceLE, Int.reduceLT, Int.reduceToNat, Int.reduceEq, Int.reduceNe, ↓reduceIte,  hlt]
    refine callV_of (hWr) (by set_option maxRecDepth 100000 in simp (maxSteps := 10000000) only [go_sem, Nat.reduceAdd, Nat.reduceSub, Nat.reduceMul, Nat.reduceLT, Nat.reduceLeDiff, Nat.reduceEqDiff, Nat.reduceMod, Nat.reduceDiv, Int.reduceNeg, Int.reduceLE, Int.reduceLT, Int.reduceToNat, Int.reduceEq, Int.reduceNe, ↓reduceIte]) (by set_option maxRecDepth 100000 in simp (maxSteps := 10000000) only [go_sem, Nat.reduceAdd, Nat.reduceSub, Nat.reduceMul, Nat.reduceLT, Nat.reduceLeDiff, Nat.reduceEqDiff, Nat.reduceMod, Nat.reduceDiv, Int.reduceNeg, Int.reduceLE, Int.reduceLT, Int.reduceToNat, Int.reduceEq, Int.reduceNe, ↓reduceIte]) rfl ?_
    set_option maxRecDepth 100000 in simp (maxSteps := 10000000) only [go_sem, Nat.reduceAdd, Nat.reduceSub, Nat.reduceMul, Nat.reduceLT, Nat.reduceLeDiff, Nat.reduceEqDiff, Nat.reduceMod, Nat.reduceDiv, Int.reduceNeg, Int.reduceLE, Int.reduceLT, Int.reduceToNat, Int.reduceEq, Int.reduceNe, ↓reduceIte,  Bool.not_false]
    rw [hre, zD]
  | some x =>
    rw [WrC, hx] at hWr
    simp only [WrOk] at hWr
    obtain ⟨id, ver, hid, hWr⟩ := hWr
    rw [hE, hsI] at hWr
    have hid2 : (117 ≤ id) = False := eq_false (by omega)
    have hW := writes_ws hOY hsc hwi.2 hx
    have hmd := made_2 d.kind d.size (made d Y) hnY false x (by have := hW.len; omega) hW.ok (d.at 0).state (d.at 1).state
    have hre := runR_some hlt hrr hx
    set_option maxRecDepth 100000 in simp (maxSteps := 10000000) only [go_sem, Nat.reduceAdd, Nat.reduceSub, Nat.reduceMul, Nat.reduceLT, Nat.reduceLeDiff, Nat.reduceEqDiff, Nat.reduceMod, Nat.reduceDiv, Int.reduceNeg, Int.reduceLE, Int.reduceLT, Int.reduceToNat, Int.reduceEq, Int.reduceNe, ↓reduceIte,  hlt]
    refine callL_of [20] (hWr) ⟨rfl, rfl, by set_option maxRecDepth 100000 in simp (maxSteps := 10000000) only [go_sem, Nat.reduceAdd, Nat.reduceSub, Nat.reduceMul, Nat.reduceLT, Nat.reduceLeDiff, Nat.reduceEqDiff, Nat.reduceMod, Nat.reduceDiv, Int.reduceNeg, Int.reduceLE, Int.reduceLT, Int.reduceToNat, Int.reduceEq, Int.reduceNe, ↓reduceIte], by simp, by set_option maxRecDepth 100000 in simp, rfl, by set_option maxRecDepth 100000 in simp (maxSteps := 10000000) only [go_sem, Nat.reduceAdd, Nat.reduceSub, Nat.reduceMul, Nat.reduceLT, Nat.reduceLeDiff, Nat.reduceEqDiff, Nat.reduceMod, Nat.reduceDiv, Int.reduceNeg, Int.reduceLE, Int.reduceLT, Int.reduceToNat, Int.reduceEq, Int.reduceNe, ↓reduceIte], rfl, onodup_of (l := [id]) rfl (by simp)⟩ ?_
    set_option maxRecDepth 100000 in simp (maxSteps := 10000000) only [go_sem, Nat.reduceAdd, Nat.reduceSub, Nat.reduceMul, Nat.reduceLT, Nat.reduceLeDiff, Nat.reduceEqDiff, Nat.reduceMod, Nat.reduceDiv, Int.reduceNeg, Int.reduceLE, Int.reduceLT, Int.reduceToNat, Int.reduceEq, Int.reduceNe, ↓reduceIte,  hid2, Bool.not_true]
    refine callM_of [53, 30, 31, 20] [53, 30, 31, 20] (hmd) ⟨by simp [renA, ren1, invM, posOf, verOf, AV.cellP, Env.go], rfl, rfl, by simp, by simp, by simp, by simp, rfl, rfl, rfl, onodup_of (l := [25, 26, 27, 28]) rfl (by decide)⟩ ?_
    set_option maxRecDepth 100000 in simp (maxSteps := 10000000) only [go_sem, Nat.reduceAdd, Nat.reduceSub, Nat.reduceMul, Nat.reduceLT, Nat.reduceLeDiff, Nat.reduceEqDiff, Nat.reduceMod, Nat.reduceDiv, Int.reduceNeg, Int.reduceLE, Int.reduceLT, Int.reduceToNat, Int.reduceEq, Int.reduceNe, ↓reduceIte,  show (Y.length + x.length) * 32 ≤ 140737488355328 by have := hW.len; omega, show Y.length + x.length ≤ maxLen by have := hW.len; unfold maxLen; omega]
    refine ih (i + 1, Y ++ x) _ ⟨by simp only; omega, by simp only; rw [made_append]; exact hOY.made hW.s16, by simp only [List.length_append]; have := hW.len; omega, fun y hy => ?_, by simp only; rw [made_append]; exact hre⟩ (by simp only; omega) ?_
    · rcases List.mem_append.1 hy with hy | hy
      · exact hY16 y hy
      · exact hW.s16 y hy
    set_option maxRecDepth 100000 in simp (maxSteps := 10000000) only [go_sem, Nat.reduceAdd, Nat.reduceSub, Nat.reduceMul, Nat.reduceLT, Nat.reduceLeDiff, Nat.reduceEqDiff, Nat.reduceMod, Nat.reduceDiv, Int.reduceNeg, Int.reduceLE, Int.reduceLT, Int.reduceToNat, Int.reduceEq, Int.reduceNe, ↓reduceIte,  wrap_succ (show i < 9223372036854775807 by omega), made_append]

set_option maxHeartbeats 16000000 in
theorem run_3 (d : Disk) (hf : FitD d) (hn : d.n = 3) (l : List SW) (hl : l.length ≤ 40) (h0 : (dE d).2 = 0) (hw : ∀ w ∈ l, wE d w = 0) : Ans Try.prog 43 [.agg (encDisk d), .sl (l.map encSW)] (runR l.length d [] 0 l) := by
  have hde := diskErr_good d hf
  rw [h0] at hde
  have hO := okd_of h0
  have hcn := hO.cnt
  have hcg := count_good d (by have := hf.n; omega) (by have := hO.size; omega) (by have := hO.size; omega)
  have hw1 : IntKind.wrap .i64 (cntI d - 1) = cntI d - 1 := wrap_i64 (by omega) (by omega)
  have h40 : ¬ (40 : Int) < (l.length : Int) := by omega
  have hfl := runR_pure l l.length d [] 0
  generalize hr : runR l.length d [] 0 l = r at hfl
  have hlens : ∀ j, j < d.n → (d.at j).secs.length ≤ 1000000 := fun j hj => by have := hf.m _ (nth_mem (l := d.units) hj); exact Nat.le_trans this (by decide)
  have how := owned_3 d.kind d.size (d.at 0) (d.at 1) (d.at 2) (hlens 0 (by omega)) (hlens 1 (by omega)) (hlens 2 (by omega))
  rw [← units_3 hn] at how
  refine good_run [(3000025, [], [103000000000000001000053, 103000000000000001001053, 103000000000000001002053, 103000000000000001003053, 103000000000000001004053]), (17, [5, 6, 7, 13, 14, 15, 16, 57, 58, 59, 60, 61, 62, 63, 64, 65, 66, 67, 68, 69, 70, 71, 72, 73, 74, 75, 76, 77], [14, 20, 2203064076]), (7, [5, 6, 7, 9, 10, 30, 31, 32, 33, 34, 35, 36, 37, 38, 39, 40, 41, 42, 43, 44, 45, 46, 47, 48, 49, 50, 51], [10, 10])] mixed Try.func43 rfl Try.ntmps43 (rs := [.cell 4 24, .tmp 5, .tmp 6, .tmp 7]) rfl (by decide +kernel) (by kernel_rfl) (hfl) ?_
  rw [startE_eq 82 _ _ _ rfl rfl]
  set_option maxRecDepth 100000 in simp (maxSteps := 10000000) only [go_sem, Nat.reduceAdd, Nat.reduceSub, Nat.reduceMul, Nat.reduceLT, Nat.reduceLeDiff, Nat.reduceEqDiff, Nat.reduceMod, Nat.reduceDiv, Int.reduceNeg, Int.reduceLE, Int.reduceLT, Int.reduceToNat, Int.reduceEq, Int.reduceNe, ↓reduceIte]
  refine call_of (hde) ?_
  set_option maxRecDepth 100000 in simp (maxSteps := 10000000) only [go_sem, Nat.reduceAdd, Nat.reduceSub, Nat.reduceMul, Nat.reduceLT, Nat.reduceLeDiff, Nat.reduceEqDiff, Nat.reduceMod, Nat.reduceDiv, Int.reduceNeg, Int.reduceLE, Int.reduceLT, Int.reduceToNat, Int.reduceEq, Int.reduceNe, ↓reduceIte,  h40, decide_false]
  refine loop_by ([5, 6, 7, 9, 10, 30, 31, 32, 33, 34, 35, 36, 37, 38, 39, 40, 41, 42, 43, 44, 45, 46, 47, 48, 49, 50, 51], [10, 10]) (fun i : Nat => [(.s 29, .int .i64 (i : Int)), (.o 10, deadV i)]) (fun i => l.length - i) (fun i => i ≤ l.length) 0 rfl (Nat.zero_le _) rfl ?_
  rintro c' st' hst m hm ih
  set_option maxRecDepth 100000 in simp (maxSteps := 10000000) only [go_sem, Nat.reduceAdd, Nat.reduceSub, Nat.reduceMul, Nat.reduceLT, Nat.reduceLeDiff, Nat.reduceEqDiff, Nat.reduceMod, Nat.reduceDiv, Int.reduceNeg, Int.reduceLE, Int.reduceLT, Int.reduceToNat, Int.reduceEq, Int.reduceNe, ↓reduceIte]
  refine ifI (fun hlt => ?_) fun hlt => ?_
  · have hwm := hw _ (nth_mem hlt)
    have hin : inB (nth l m).sector 0 (cntI d - 1) = true := by
      apply Classical.byContradiction
      intro q
      rw [wE, if_pos (by simpa using q)] at hwm; cases hwm
    have h16 : ((nth l m).bytes.size : Int) = 16 := by have := (wE_zero hO hwm).2; omega
    set_option maxRecDepth 100000 in simp (maxSteps := 10000000) only [go_sem, Nat.reduceAdd, Nat.reduceSub, Nat.reduceMul, Nat.reduceLT, Nat.reduceLeDiff, Nat.reduceEqDiff, Nat.reduceMod, Nat.reduceDiv, Int.reduceNeg, Int.reduceLE, Int.reduceLT, Int.reduceToNat, Int.reduceEq, Int.reduceNe, ↓reduceIte,  hlt]
    refine callD_of (hcg) ?_
    set_option maxRecDepth 100000 in simp (maxSteps := 10000000) only [go_sem, Nat.reduceAdd, Nat.reduceSub, Nat.reduceMul, Nat.reduceLT, Nat.reduceLeDiff, Nat.reduceEqDiff, Nat.reduceMod, Nat.reduceDiv, Int.reduceNeg, Int.reduceLE, Int.reduceLT, Int.reduceToNat, Int.reduceEq, Int.reduceNe, ↓reduceIte,  hw1]
    refine callD_of (within_good _ _ _) ?_
    set_option maxRecDepth 100000 in simp (maxSteps := 10000000) only [go_sem, Nat.reduceAdd, Nat.reduceSub, Nat.reduceMul, Nat.reduceLT, Nat.reduceLeDiff, Nat.reduceEqDiff, Nat.reduceMod, Nat.reduceDiv, Int.reduceNeg, Int.reduceLE, Int.reduceLT, Int.reduceToNat, Int.reduceEq, Int.reduceNe, ↓reduceIte,  hin, Bool.not_true]
    refine ⟨by decide +kernel, ?_⟩
    set_option maxRecDepth 100000 in simp (maxSteps := 10000000) only [go_sem, Nat.reduceAdd, Nat.reduceSub, Nat.reduceMul, Nat.reduceLT, Nat.reduceLeDiff, Nat.reduceEqDiff, Nat.reduceMod, Nat.reduceDiv, Int.reduceNeg, Int.reduceLE, Int.reduceLT, Int.reduceToNat, Int.reduceEq, Int.reduceNe, ↓reduceIte,  eq_true h16, not_true_eq_false, decide_false]
    refine ih (m + 1) _ (by omega) (by omega) ?_
    set_option maxRecDepth 100000 in simp (maxSteps := 10000000) only [go_sem, Nat.reduceAdd, Nat.reduceSub, Nat.reduceMul, Nat.reduceLT, Nat.reduceLeDiff, Nat.reduceEqDiff, Nat.reduceMod, Nat.reduceDiv, Int.reduceNeg, Int.reduceLE, Int.reduceLT, Int.reduceToNat, Int.reduceEq, Int.reduceNe, ↓reduceIte,  wrap_succ (show m < 9223372036854775807 by omega)]
  subst hst
  clear ih
  set_option maxRecDepth 100000 in simp (maxSteps := 10000000) only [go_sem, Nat.reduceAdd, Nat.reduceSub, Nat.reduceMul, Nat.reduceLT, Nat.reduceLeDiff, Nat.reduceEqDiff, Nat.reduceMod, Nat.reduceDiv, Int.reduceNeg, Int.reduceLE, Int.reduceLT, Int.reduceToNat, Int.reduceEq, Int.reduceNe, ↓reduceIte,  hlt]
  refine callM_of [] [53, 30, 31, 32] (how) ⟨rfl, rfl, rfl, by simp, by simp, by simp, by simp, rfl, rfl, rfl, onodup_of (l := [6, 12, 13, 14]) rfl (by decide)⟩ ?_
  set_option maxRecDepth 100000 in simp (maxSteps := 10000000) only [go_sem, Nat.reduceAdd, Nat.reduceSub, Nat.reduceMul, Nat.reduceLT, Nat.reduceLeDiff, Nat.reduceEqDiff, Nat.reduceMod, Nat.reduceDiv, Int.reduceNeg, Int.reduceLE, Int.reduceLT, Int.reduceToNat, Int.reduceEq, Int.reduceNe, ↓reduceIte]

  refine loop_by ([5, 6, 7, 13, 14, 15, 16, 57, 58, 59, 60, 61, 62, 63, 64, 65, 66, 67, 68, 69, 70, 71, 72, 73, 74, 75, 76, 77], [14, 20, 2203064076]) (fun x : Nat × List UW => [(.s 56, .int .i64 (x.1 : Int)), (.o 14, deadV x.1), (.o 20, deadV x.1), (.o 30, .obj 1 9 1 false true (((made d x.2).at 0).secs.map encStr)), (.o 31, .obj 1 9 1 false true (((made d x.2).at 1).secs.map encStr)), (.o 32, .obj 1 9 1 false true (((made d x.2).at 2).secs.map encStr)), (.o 76, .obj (x.1 + 1) 64 3 false true (x.2.map encUW)), (.s 12, .ref 76 (x.1 + 1))]) (fun x => l.length - x.1)
    (fun x => x.1 ≤ l.length ∧ Okd (made d x.2) ∧ x.2.length ≤ 5 * x.1 ∧ (∀ y ∈ x.2, y.bytes.size = 16) ∧ r = runR l.length (made d x.2) x.2 x.1 (l.drop x.1)) (0, []) rfl ⟨Nat.zero_le _, hO, Nat.zero_le _, fun y hy => (by cases hy), hr.symm⟩ ?_ ?_
  · set_option maxRecDepth 100000 in simp (maxSteps := 10000000) only [go_sem, Nat.reduceAdd, Nat.reduceSub, Nat.reduceMul, Nat.reduceLT, Nat.reduceLeDiff, Nat.reduceEqDiff, Nat.reduceMod, Nat.reduceDiv, Int.reduceNeg, Int.reduceLE, Int.reduceLT, Int.reduceToNat, Int.reduceEq, Int.reduceNe, ↓reduceIte]
    simp [made]
  rintro c' st' hst ⟨i, Y⟩ ⟨hi, hOY, hY5, hY16, hrr⟩ ih
  simp only at hi hOY hY5 hY16 hrr ih ⊢
  have K := keeps_made d Y
  have hnY : (made d Y).n = 3 := K.n.trans hn
  have S := made_state Y d
  have hE : AV.agg (encDisk (made d Y)) = .agg [.int .i64 d.kind, .int .i64 d.size, .sl [[.int .i64 (d.at 0).state, .sl (((made d Y).at 0).secs.map encStr)], [.int .i64 (d.at 1).state, .sl (((made d Y).at 1).secs.map encStr)], [.int .i64 (d.at 2).state, .sl (((made d Y).at 2).secs.map encStr)]]] := by
    conv => lhs; rw [units_3 hnY]
    simp only [encDisk, List.map_cons, List.map_nil, encDU, K.kind, K.size, (S 0 (by omega)).1, (S 1 (by omega)).1, (S 2 (by omega)).1]
  set_option maxRecDepth 100000 in simp (maxSteps := 10000000) only [go_sem, Nat.reduceAdd, Nat.reduceSub, Nat.reduceMul, Nat.reduceLT, Nat.reduceLeDiff, Nat.reduceEqDiff, Nat.reduceMod, Nat.reduceDiv, Int.reduceNeg, Int.reduceLE, Int.reduceLT, Int.reduceToNat, Int.reduceEq, Int.reduceNe, ↓reduceIte]
  refine ifI (fun hlt => ?_) fun hlt => ?_
  case refine_2 =>
    have hre := runR_end (l := l) (by omega) hrr
    subst hst
    set_option maxRecDepth 100000 in simp (maxSteps := 10000000) only [go_sem, Nat.reduceAdd, Nat.reduceSub, Nat.reduceMul, Nat.reduceLT, Nat.reduceLeDiff, Nat.reduceEqDiff, Nat.reduceMod, Nat.reduceDiv, Int.reduceNeg, Int.reduceLE, Int.reduceLT, Int.reduceToNat, Int.reduceEq, Int.reduceNe, ↓reduceIte,  hlt]
    rw [hre, hE]
  have hwi := wE_zero hO (hw _ (nth_mem hlt))
  have hsI : (((nth l i).sector.toNat : Nat) : Int) = (nth l i).sector := by omega
  have hsc : (nth l i).sector.toNat < (made d Y).count := by rw [K.count]; exact hwi.1.2
  have hWr := writes_good (made d Y) hOY hsc (nth l i).bytes hwi.2
  cases hx : (made d Y).writes (nth l i).sector.toNat (nth l i).bytes with
  | none =>
    rw [WrC, hx] at hWr
    simp only [WrNo] at hWr
    rw [hE, hsI] at hWr
    have hre := runR_none hlt hrr hx
    set_option maxRecDepth 100000 in simp (maxSteps := 10000000) only [go_sem, Nat.reduceAdd, Nat.reduceSub, Nat.reduceMul, Nat.reduceLT, Nat.reduceLeDiff, Nat.reduceEqDiff, Nat.reduceMod, Nat.reduceDiv, Int.reduceNeg, Int.reduceLE, Int.reduceLT, Int.reduceToNat, Int.reduceEq, Int.reduceNe, ↓reduceIte,  hlt]
    refine callV_of (hWr) (by set_option maxRecDepth 100000 in simp (maxSteps := 10000000) only [go_sem, Nat.reduceAdd, Nat.reduceSub, Nat.reduceMul, Nat.reduceLT, Nat.reduceLeDiff, Nat.reduceEqDiff, Nat.reduceMod, Nat.reduceDiv, Int.reduceNeg, Int.reduceLE, Int.reduceLT, Int.reduceToNat, Int.reduceEq, Int.reduceNe, ↓reduceIte]) (by set_option maxRecDepth 100000 in simp (maxSteps := 10000000) only [go_sem, Nat.reduceAdd, Nat.reduceSub, Nat.reduceMul, Nat.reduceLT, Nat.reduceLeDiff, Nat.reduceEqDiff, Nat.reduceMod, Nat.reduceDiv, Int.reduceNeg, Int.reduceLE, Int.reduceLT, Int.reduceToNat, Int.reduceEq, Int.reduceNe, ↓reduceIte]) rfl ?_
    set_option maxRecDepth 100000 in simp (maxSteps := 10000000) only [go_sem, Nat.reduceAdd, Nat.reduceSub, Nat.reduceMul, Nat.reduceLT, Nat.reduceLeDiff, Nat.reduceEqDiff, Nat.reduceMod, Nat.reduceDiv, Int.reduceNeg, Int.reduceLE, Int.reduceLT, Int.reduceToNat, Int.reduceEq, Int.reduceNe, ↓reduceIte,  Bool.not_false]
    rw [hre, zD]
  | some x =>
    rw [WrC, hx] at hWr
    simp only [WrOk] at hWr
    obtain ⟨id, ver, hid, hWr⟩ := hWr
    rw [hE, hsI] at hWr
    have hid2 : (117 ≤ id) = False := eq_false (by omega)
    have hW := writes_ws hOY hsc hwi.2 hx
    have hmd := made_3 d.kind d.size (made d Y) hnY false x (by have := hW.len; omega) hW.ok (d.at 0).state (d.at 1).state (d.at 2).state
    have hre := runR_some hlt hrr hx
    set_option maxRecDepth 100000 in simp (maxSteps := 10000000) only [go_sem, Nat.reduceAdd, Nat.reduceSub, Nat.reduceMul, Nat.reduceLT, Nat.reduceLeDiff, Nat.reduceEqDiff, Nat.reduceMod, Nat.reduceDiv, Int.reduceNeg, Int.reduceLE, Int.reduceLT, Int.reduceToNat, Int.reduceEq, Int.reduceNe, ↓reduceIte,  hlt]
    refine callL_of [20] (hWr) ⟨rfl, rfl, by set_option maxRecDepth 100000 in simp (maxSteps := 10000000) only [go_sem, Nat.reduceAdd, Nat.reduceSub, Nat.reduceMul, Nat.reduceLT, Nat.reduceLeDiff, Nat.reduceEqDiff, Nat.reduceMod, Nat.reduceDiv, Int.reduceNeg, Int.reduceLE, Int.reduceLT, Int.reduceToNat, Int.reduceEq, Int.reduceNe, ↓reduceIte], by simp, by set_option maxRecDepth 100000 in simp, rfl, by set_option maxRecDepth 100000 in simp (maxSteps := 10000000) only [go_sem, Nat.reduceAdd, Nat.reduceSub, Nat.reduceMul, Nat.reduceLT, Nat.reduceLeDiff, Nat.reduceEqDiff, Nat.reduceMod, Nat.reduceDiv, Int.reduceNeg, Int.reduceLE, Int.reduceLT, Int.reduceToNat, Int.reduceEq, Int.reduceNe, ↓reduceIte], rfl, onodup_of (l := [id]) rfl (by simp)⟩ ?_
    set_option maxRecDepth 100000 in simp (maxSteps := 10000000) only [go_sem, Nat.reduceAdd, Nat.reduceSub, Nat.reduceMul, Nat.reduceLT, Nat.reduceLeDiff, Nat.reduceEqDiff, Nat.reduceMod, Nat.reduceDiv, Int.reduceNeg, Int.reduceLE, Int.reduceLT, Int.reduceToNat, Int.reduceEq, Int.reduceNe, ↓reduceIte,  hid2, Bool.not_true]
    refine callM_of [53, 30, 31, 32, 20] [53, 30, 31, 32, 20] (hmd) ⟨by simp [renA, ren1, invM, posOf, verOf, AV.cellP, Env.go], rfl, rfl, by simp, by simp, by simp, by simp, rfl, rfl, rfl, onodup_of (l := [25, 26, 27, 28, 29]) rfl (by decide)⟩ ?_
    set_option maxRecDepth 100000 in simp (maxSteps := 10000000) only [go_sem, Nat.reduceAdd, Nat.reduceSub, Nat.reduceMul, Nat.reduceLT, Nat.reduceLeDiff, Nat.reduceEqDiff, Nat.reduceMod, Nat.reduceDiv, Int.reduceNeg, Int.reduceLE, Int.reduceLT, Int.reduceToNat, Int.reduceEq, Int.reduceNe, ↓reduceIte,  show (Y.length + x.length) * 32 ≤ 140737488355328 by have := hW.len; omega, show Y.length + x.length ≤ maxLen by have := hW.len; unfold maxLen; omega]
    refine ih (i + 1, Y ++ x) _ ⟨by simp only; omega, by simp only; rw [made_append]; exact hOY.made hW.s16, by simp only [List.length_append]; have := hW.len; omega, fun y hy => ?_, by simp only; rw [made_append]; exact hre⟩ (by simp only; omega) ?_
    · rcases List.mem_append.1 hy with hy | hy
      · exact hY16 y hy
      · exact hW.s16 y hy
    set_option maxRecDepth 100000 in simp (maxSteps := 10000000) only [go_sem, Nat.reduceAdd, Nat.reduceSub, Nat.reduceMul, Nat.reduceLT, Nat.reduceLeDiff, Nat.reduceEqDiff, Nat.reduceMod, Nat.reduceDiv, Int.reduceNeg, Int.reduceLE, Int.reduceLT, Int.reduceToNat, Int.reduceEq, Int.reduceNe, ↓reduceIte,  wrap_succ (show i < 9223372036854775807 by omega), made_append]

set_option maxHeartbeats 16000000 in
theorem run_4 (d : Disk) (hf : FitD d) (hn : d.n = 4) (l : List SW) (hl : l.length ≤ 40) (h0 : (dE d).2 = 0) (hw : ∀ w ∈ l, wE d w = 0) : Ans Try.prog 43 [.agg (encDisk d), .sl (l.map encSW)] (runR l.length d [] 0 l) := by
  have hde := diskErr_good d hf
  rw [h0] at hde
  have hO := okd_of h0
  have hcn := hO.cnt
  have hcg := count_good d (by have := hf.n; omega) (by have := hO.size; omega) (by have := hO.size; omega)
  have hw1 : IntKind.wrap .i64 (cntI d - 1) = cntI d - 1 := wrap_i64 (by omega) (by omega)
  have h40 : ¬ (40 : Int) < (l.length : Int) := by omega
  have hfl := runR_pure l l.length d [] 0
  generalize hr : runR l.length d [] 0 l = r at hfl
  have hlens : ∀ j, j < d.n → (d.at j).secs.length ≤ 1000000 := fun j hj => by have := hf.m _ (nth_mem (l := d.units) hj); exact Nat.le_trans this (by decide)
  have how := owned_4 d.kind d.size (d.at 0) (d.at 1) (d.at 2) (d.at 3) (hlens 0 (by omega)) (hlens 1 (by omega)) (hlens 2 (by omega)) (hlens 3 (by omega))
  rw [← units_4 hn] at how
  refine good_run [(3000025, [], [103000000000000001000053, 103000000000000001001053, 103000000000000001002053, 103000000000000001003053, 103000000000000001004053]), (17, [5, 6, 7, 13, 14, 15, 16, 57, 58, 59, 60, 61, 62, 63, 64, 65, 66, 67, 68, 69, 70, 71, 72, 73, 74, 75, 76, 77], [14, 20, 2203064076]), (7, [5, 6, 7, 9, 10, 30, 31, 32, 33, 34, 35, 36, 37, 38, 39, 40, 41, 42, 43, 44, 45, 46, 47, 48, 49, 50, 51], [10, 10])] mixed Try.func43 rfl Try.ntmps43 (rs := [.cell 4 24, .tmp 5, .tmp 6, .tmp 7]) rfl (by decide +kernel) (by kernel_rfl) (hfl) ?_
  rw [startE_eq 82 _ _ _ rfl rfl]
  set_option maxRecDepth 100000 in simp (maxSteps := 10000000) only [go_sem, Nat.reduceAdd, Nat.reduceSub, Nat.reduceMul, Nat.reduceLT, Nat.reduceLeDiff, Nat.reduceEqDiff, Nat.reduceMod, Nat.reduceDiv, Int.reduceNeg, Int.reduceLE, Int.reduceLT, Int.reduceToNat, Int.reduceEq, Int.reduceNe, ↓reduceIte]
  refine call_of (hde) ?_
  set_option maxRecDepth 100000 in simp (maxSteps := 10000000) only [go_sem, Nat.reduceAdd, Nat.reduceSub, Nat.reduceMul, Nat.reduceLT, Nat.reduceLeDiff, Nat.reduceEqDiff, Nat.reduceMod, Nat.reduceDiv, Int.reduceNeg, Int.reduceLE, Int.reduceLT, Int.reduceToNat, Int.reduceEq, Int.reduceNe, ↓reduceIte,  h40, decide_false]
  refine loop_by ([5, 6, 7, 9, 10, 30, 31, 32, 33, 34, 35, 36, 37, 38, 39, 40, 41, 42, 43, 44, 45, 46, 47, 48, 49, 50, 51], [10, 10]) (fun i : Nat => [(.s 29, .int .i64 (i : Int)), (.o 10, deadV i)]) (fun i => l.length - i) (fun i => i ≤ l.length) 0 rfl (Nat.zero_le _) rfl ?_
  rintro c' st' hst m hm ih
  set_option maxRecDepth 100000 in simp (maxSteps := 10000000) only [go_sem, Nat.reduceAdd, Nat.reduceSub, Nat.reduceMul, Nat.reduceLT, Nat.reduceLeDiff, Nat.reduceEqDiff, Nat.reduceMod, Nat.reduceDiv, Int.reduceNeg, Int.reduceLE, Int.reduceLT, Int.reduceToNat, Int.reduceEq, Int.reduceNe, ↓reduceIte]
  refine ifI (fun hlt => ?_) fun hlt => ?_
  · have hwm := hw _ (nth_mem hlt)
    have hin : inB (nth l m).sector 0 (cntI d - 1) = true := by
      apply Classical.byContradiction
      intro q
      rw [wE, if_pos (by simpa using q)] at hwm; cases hwm
    have h16 : ((nth l m).bytes.size : Int) = 16 := by have := (wE_zero hO hwm).2; omega
    set_option maxRecDepth 100000 in simp (maxSteps := 10000000) only [go_sem, Nat.reduceAdd, Nat.reduceSub, Nat.reduceMul, Nat.reduceLT, Nat.reduceLeDiff, Nat.reduceEqDiff, Nat.reduceMod, Nat.reduceDiv, Int.reduceNeg, Int.reduceLE, Int.reduceLT, Int.reduceToNat, Int.reduceEq, Int.reduceNe, ↓reduceIte,  hlt]
    refine callD_of (hcg) ?_
    set_option maxRecDepth 100000 in simp (maxSteps := 10000000) only [go_sem, Nat.reduceAdd, Nat.reduceSub, Nat.reduceMul, Nat.reduceLT, Nat.reduceLeDiff, Nat.reduceEqDiff, Nat.reduceMod, Nat.reduceDiv, Int.reduceNeg, Int.reduceLE, Int.reduceLT, Int.reduceToNat, Int.reduceEq, Int.reduceNe, ↓reduceIte,  hw1]
    refine callD_of (within_good _ _ _) ?_
    set_option maxRecDepth 100000 in simp (maxSteps := 10000000) only [go_sem, Nat.reduceAdd, Nat.reduceSub, Nat.reduceMul, Nat.reduceLT, Nat.reduceLeDiff, Nat.reduceEqDiff, Nat.reduceMod, Nat.reduceDiv, Int.reduceNeg, Int.reduceLE, Int.reduceLT, Int.reduceToNat, Int.reduceEq, Int.reduceNe, ↓reduceIte,  hin, Bool.not_true]
    refine ⟨by decide +kernel, ?_⟩
    set_option maxRecDepth 100000 in simp (maxSteps := 10000000) only [go_sem, Nat.reduceAdd, Nat.reduceSub, Nat.reduceMul, Nat.reduceLT, Nat.reduceLeDiff, Nat.reduceEqDiff, Nat.reduceMod, Nat.reduceDiv, Int.reduceNeg, Int.reduceLE, Int.reduceLT, Int.reduceToNat, Int.reduceEq, Int.reduceNe, ↓reduceIte,  eq_true h16, not_true_eq_false, decide_false]
    refine ih (m + 1) _ (by omega) (by omega) ?_
    set_option maxRecDepth 100000 in simp (maxSteps := 10000000) only [go_sem, Nat.reduceAdd, Nat.reduceSub, Nat.reduceMul, Nat.reduceLT, Nat.reduceLeDiff, Nat.reduceEqDiff, Nat.reduceMod, Nat.reduceDiv, Int.reduceNeg, Int.reduceLE, Int.reduceLT, Int.reduceToNat, Int.reduceEq, Int.reduceNe, ↓reduceIte,  wrap_succ (show m < 9223372036854775807 by omega)]
  subst hst
  clear ih
  set_option maxRecDepth 100000 in simp (maxSteps := 10000000) only [go_sem, Nat.reduceAdd, Nat.reduceSub, Nat.reduceMul, Nat.reduceLT, Nat.reduceLeDiff, Nat.reduceEqDiff, Nat.reduceMod, Nat.reduceDiv, Int.reduceNeg, Int.reduceLE, Int.reduceLT, Int.reduceToNat, Int.reduceEq, Int.reduceNe, ↓reduceIte,  hlt]
  refine callM_of [] [53, 30, 31, 32, 33] (how) ⟨rfl, rfl, rfl, by simp, by simp, by simp, by simp, rfl, rfl, rfl, onodup_of (l := [6, 12, 13, 14, 15]) rfl (by decide)⟩ ?_
  set_option maxRecDepth 100000 in simp (maxSteps := 10000000) only [go_sem, Nat.reduceAdd, Nat.reduceSub, Nat.reduceMul, Nat.reduceLT, Nat.reduceLeDiff, Nat.reduceEqDiff, Nat.reduceMod, Nat.reduceDiv, Int.reduceNeg, Int.reduceLE, Int.reduceLT, Int.reduceToNat, Int.reduceEq, Int.reduceNe, ↓reduceIte]

  refine loop_by ([5, 6, 7, 13, 14, 15, 16, 57, 58, 59, 60, 61, 62, 63, 64, 65, 66, 67, 68, 69, 70, 71, 72, 73, 74, 75, 76, 77], [14, 20, 2203064076]) (fun x : Nat × List UW => [(.s 56, .int .i64 (x.1 : Int)), (.o 14, deadV x.1), (.o 20, deadV x.1), (.o 30, .obj 1 9 1 false true (((made d x.2).at 0).secs.map encStr)), (.o 31, .obj 1 9 1 false true (((made d x.2).at 1).secs.map encStr)), (.o 32, .obj 1 9 1 false true (((made d x.2).at 2).secs.map encStr)), (.o 33, .obj 1 9 1 false true (((made d x.2).at 3).secs.map encStr)), (.o 76, .obj (x.1 + 1) 64 3 false true (x.2.map encUW)), (.s 12, .ref 76 (x.1 + 1))]) (fun x => l.length - x.1)
    (fun x => x.1 ≤ l.length ∧ Okd (made d x.2) ∧ x.2.length ≤ 5 * x.1 ∧ (∀ y ∈ x.2, y.bytes.size = 16) ∧ r = runR l.length (made d x.2) x.2 x.1 (l.drop x.1)) (0, []) rfl ⟨Nat.zero_le _, hO, Nat.zero_le _, fun y hy => (by cases hy), hr.symm⟩ ?_ ?_
  · set_option maxRecDepth 100000 in simp (maxSteps := 10000000) only [go_sem, Nat.reduceAdd, Nat.reduceSub, Nat.reduceMul, Nat.reduceLT, Nat.reduceLeDiff, Nat.reduceEqDiff, Nat.reduceMod, Nat.reduceDiv, Int.reduceNeg, Int.reduceLE, Int.reduceLT, Int.reduceToNat, Int.reduceEq, Int.reduceNe, ↓reduceIte]
    simp [made]
  rintro c' st' hst ⟨i, Y⟩ ⟨hi, hOY, hY5, hY16, hrr⟩ ih
  simp only at hi hOY hY5 hY16 hrr ih ⊢
  have K := keeps_made d Y
  have hnY : (made d Y).n = 4 := K.n.trans hn
  have S := made_state Y d
  have hE : AV.agg (encDisk (made d Y)) = .agg [.int .i64 d.kind, .int .i64 d.size, .sl [[.int .i64 (d.at 0).state, .sl (((made d Y).at 0).secs.map encStr)], [.int .i64 (d.at 1).state, .sl (((made d Y).at 1).secs.map encStr)], [.int .i64 (d.at 2).state, .sl (((made d Y).at 2).secs.map encStr)], [.int .i64 (d.at 3).state, .sl (((made d Y).at 3).secs.map encStr)]]] := by
    conv => lhs; rw [units_4 hnY]
    simp only [encDisk, List.map_cons, List.map_nil, encDU, K.kind, K.size, (S 0 (by omega)).1, (S 1 (by omega)).1, (S 2 (by omega)).1, (S 3 (by omega)).1]
  set_option maxRecDepth 100000 in simp (maxSteps := 10000000) only [go_sem, Nat.reduceAdd, Nat.reduceSub, Nat.reduceMul, Nat.reduceLT, Nat.reduceLeDiff, Nat.reduceEqDiff, Nat.reduceMod, Nat.reduceDiv, Int.reduceNeg, Int.reduceLE, Int.reduceLT, Int.reduceToNat, Int.reduceEq, Int.reduceNe, ↓reduceIte]
  refine ifI (fun hlt => ?_) fun hlt => ?_
  case refine_2 =>
    have hre := runR_end (l := l) (by omega) hrr
    subst hst
    set_option maxRecDepth 100000 in simp (maxSteps := 10000000) only [go_sem, Nat.reduceAdd, Nat.reduceSub, Nat.reduceMul, Nat.reduceLT, Nat.reduceLeDiff, Nat.reduceEqDiff, Nat.reduceMod, Nat.reduceDiv, Int.reduceNeg, Int.reduceLE, Int.reduceLT, Int.reduceToNat, Int.reduceEq, Int.reduceNe, ↓reduceIte,  hlt]
    rw [hre, hE]
  have hwi := wE_zero hO (hw _ (nth_mem hlt))
  have hsI : (((nth l i).sector.toNat : Nat) : Int) = (nth l i).sector := by omega
  have hsc : (nth l i).sector.toNat < (made d Y).count := by rw [K.count]; exact hwi.1.2
  have hWr := writes_good (made d Y) hOY hsc (nth l i).bytes hwi.2
  cases hx : (made d Y).writes (nth l i).sector.toNat (nth l i).bytes with
  | none =>
    rw [WrC, hx] at hWr
    simp only [WrNo] at hWr
    rw [hE, hsI] at hWr
    have hre := runR_none hlt hrr hx
    set_option maxRecDepth 100000 in simp (maxSteps := 10000000) only [go_sem, Nat.reduceAdd, Nat.reduceSub, Nat.reduceMul, Nat.reduceLT, Nat.reduceLeDiff, Nat.reduceEqDiff, Nat.reduceMod, Nat.reduceDiv, Int.reduceNeg, Int.reduceLE, Int.reduceLT, Int.reduceToNat, Int.reduceEq, Int.reduceNe, ↓reduceIte,  hlt]
    refine callV_of (hWr) (by set_option maxRecDepth 100000 in simp (maxSteps := 10000000) only [go_sem, Nat.reduceAdd, Nat.reduceSub, Nat.reduceMul, Nat.reduceLT, Nat.reduceLeDiff, Nat.reduceEqDiff, Nat.reduceMod, Nat.reduceDiv, Int.reduceNeg, Int.reduceLE, Int.reduceLT, Int.reduceToNat, Int.reduceEq, Int.reduceNe, ↓reduceIte]) (by set_option maxRecDepth 100000 in simp (maxSteps := 10000000) only [go_sem, Nat.reduceAdd, Nat.reduceSub, Nat.reduceMul, Nat.reduceLT, Nat.reduceLeDiff, Nat.reduceEqDiff, Nat.reduceMod, Nat.reduceDiv, Int.reduceNeg, Int.reduceLE, Int.reduceLT, Int.reduceToNat, Int.reduceEq, Int.reduceNe, ↓reduceIte]) rfl ?_
    set_option maxRecDepth 100000 in simp (maxSteps := 10000000) only [go_sem, Nat.reduceAdd, Nat.reduceSub, Nat.reduceMul, Nat.reduceLT, Nat.reduceLeDiff, Nat.reduceEqDiff, Nat.reduceMod, Nat.reduceDiv, Int.reduceNeg, Int.reduceLE, Int.reduceLT, Int.reduceToNat, Int.reduceEq, Int.reduceNe, ↓reduceIte,  Bool.not_false]
    rw [hre, zD]
  | some x =>
    rw [WrC, hx] at hWr
    simp only [WrOk] at hWr
    obtain ⟨id, ver, hid, hWr⟩ := hWr
    rw [hE, hsI] at hWr
    have hid2 : (117 ≤ id) = False := eq_false (by omega)
    have hW := writes_ws hOY hsc hwi.2 hx
    have hmd := made_4 d.kind d.size (made d Y) hnY false x (by have := hW.len; omega) hW.ok (d.at 0).state (d.at 1).state (d.at 2).state (d.at 3).state
    have hre := runR_some hlt hrr hx
    set_option maxRecDepth 100000 in simp (maxSteps := 10000000) only [go_sem, Nat.reduceAdd, Nat.reduceSub, Nat.reduceMul, Nat.reduceLT, Nat.reduceLeDiff, Nat.reduceEqDiff, Nat.reduceMod, Nat.reduceDiv, Int.reduceNeg, Int.reduceLE, Int.reduceLT, Int.reduceToNat, Int.reduceEq, Int.reduceNe, ↓reduceIte,  hlt]
    refine callL_of [20] (hWr) ⟨rfl, rfl, by set_option maxRecDepth 100000 in simp (maxSteps := 10000000) only [go_sem, Nat.reduceAdd, Nat.reduceSub, Nat.reduceMul, Nat.reduceLT, Nat.reduceLeDiff, Nat.reduceEqDiff, Nat.reduceMod, Nat.reduceDiv, Int.reduceNeg, Int.reduceLE, Int.reduceLT, Int.reduceToNat, Int.reduceEq, Int.reduceNe, ↓reduceIte], by simp, by set_option maxRecDepth 100000 in simp, rfl, by set_option maxRecDepth 100000 in simp (maxSteps := 10000000) only [go_sem, Nat.reduceAdd, Nat.reduceSub, Nat.reduceMul, Nat.reduceLT, Nat.reduceLeDiff, Nat.reduceEqDiff, Nat.reduceMod, Nat.reduceDiv, Int.reduceNeg, Int.reduceLE, Int.reduceLT, Int.reduceToNat, Int.reduceEq, Int.reduceNe, ↓reduceIte], rfl, onodup_of (l := [id]) rfl (by simp)⟩ ?_
    set_option maxRecDepth 100000 in simp (maxSteps := 10000000) only [go_sem, Nat.reduceAdd, Nat.reduceSub, Nat.reduceMul, Nat.reduceLT, Nat.reduceLeDiff, Nat.reduceEqDiff, Nat.reduceMod, Nat.reduceDiv, Int.reduceNeg, Int.reduceLE, Int.reduceLT, Int.reduceToNat, Int.reduceEq, Int.reduceNe, ↓reduceIte,  hid2, Bool.not_true]
    refine callM_of [53, 30, 31, 32, 33, 20] [53, 30, 31, 32, 33, 20] (hmd) ⟨by simp [renA, ren1, invM, posOf, verOf, AV.cellP, Env.go], rfl, rfl, by simp, by simp, by simp, by simp, rfl, rfl, rfl, onodup_of (l := [25, 26, 27, 28, 29, 30]) rfl (by decide)⟩ ?_
    set_option maxRecDepth 100000 in simp (maxSteps := 10000000) only [go_sem, Nat.reduceAdd, Nat.reduceSub, Nat.reduceMul, Nat.reduceLT, Nat.reduceLeDiff, Nat.reduceEqDiff, Nat.reduceMod, Nat.reduceDiv, Int.reduceNeg, Int.reduceLE, Int.reduceLT, Int.reduceToNat, Int.reduceEq, Int.reduceNe, ↓reduceIte,  show (Y.length + x.length) * 32 ≤ 140737488355328 by have := hW.len; omega, show Y.length + x.length ≤ maxLen by have := hW.len; unfold maxLen; omega]
    refine ih (i + 1, Y ++ x) _ ⟨by simp only; omega, by simp only; rw [made_append]; exact hOY.made hW.s16, by simp only [List.length_append]; have := hW.len; omega, fun y hy => ?_, by simp only; rw [made_append]; exact hre⟩ (by simp only; omega) ?_
    · rcases List.mem_append.1 hy with hy | hy
      · exact hY16 y hy
      · exact hW.s16 y hy
    set_option maxRecDepth 100000 in simp (maxSteps := 10000000) only [go_sem, Nat.reduceAdd, Nat.reduceSub, Nat.reduceMul, Nat.reduceLT, Nat.reduceLeDiff, Nat.reduceEqDiff, Nat.reduceMod, Nat.reduceDiv, Int.reduceNeg, Int.reduceLE, Int.reduceLT, Int.reduceToNat, Int.reduceEq, Int.reduceNe, ↓reduceIte,  wrap_succ (show i < 9223372036854775807 by omega), made_append]

set_option maxHeartbeats 16000000 in
theorem run_5 (d : Disk) (hf : FitD d) (hn : d.n = 5) (l : List SW) (hl : l.length ≤ 40) (h0 : (dE d).2 = 0) (hw : ∀ w ∈ l, wE d w = 0) : Ans Try.prog 43 [.agg (encDisk d), .sl (l.map encSW)] (runR l.length d [] 0 l) := by
  have hde := diskErr_good d hf
  rw [h0] at hde
  have hO := okd_of h0
  have hcn := hO.cnt
  have hcg := count_good d (by have := hf.n; omega) (by have := hO.size; omega) (by have := hO.size; omega)
  have hw1 : IntKind.wrap .i64 (cntI d - 1) = cntI d - 1 := wrap_i64 (by omega) (by omega)
  have h40 : ¬ (40 : Int) < (l.length : Int) := by omega
  have hfl := runR_pure l l.length d [] 0
  generalize hr : runR l.length d [] 0 l = r at hfl
  have hlens : ∀ j, j < d.n → (d.at j).secs.length ≤ 1000000 := fun j hj => by have := hf.m _ (nth_mem (l := d.units) hj); exact Nat.le_trans this (by decide)
  have how := owned_5 d.kind d.size (d.at 0) (d.at 1) (d.at 2) (d.at 3) (d.at 4) (hlens 0 (by omega)) (hlens 1 (by omega)) (hlens 2 (by omega)) (hlens 3 (by omega)) (hlens 4 (by omega))
  rw [← units_5 hn] at how
  refine good_run [(3000025, [], [103000000000000001000053, 103000000000000001001053, 103000000000000001002053, 103000000000000001003053, 103000000000000001004053]), (17, [5, 6, 7, 13, 14, 15, 16, 57, 58, 59, 60, 61, 62, 63, 64, 65, 66, 67, 68, 69, 70, 71, 72, 73, 74, 75, 76, 77], [14, 20, 2203064076]), (7, [5, 6, 7, 9, 10, 30, 31, 32, 33, 34, 35, 36, 37, 38, 39, 40, 41, 42, 43, 44, 45, 46, 47, 48, 49, 50, 51], [10, 10])] mixed Try.func43 rfl Try.ntmps43 (rs := [.cell 4 24, .tmp 5, .tmp 6, .tmp 7]) rfl (by decide +kernel) (by kernel_rfl) (hfl) ?_
  rw [startE_eq 82 _ _ _ rfl rfl]
  set_option maxRecDepth 100000 in simp (maxSteps := 10000000) only [go_sem, Nat.reduceAdd, Nat.reduceSub, Nat.reduceMul, Nat.reduceLT, Nat.reduceLeDiff, Nat.reduceEqDiff, Nat.reduceMod, Nat.reduceDiv, Int.reduceNeg, Int.reduceLE, Int.reduceLT, Int.reduceToNat, Int.reduceEq, Int.reduceNe, ↓reduceIte]
  refine call_of (hde) ?_
  set_option maxRecDepth 100000 in simp (maxSteps := 10000000) only [go_sem, Nat.reduceAdd, Nat.reduceSub, Nat.reduceMul, Nat.reduceLT, Nat.reduceLeDiff, Nat.reduceEqDiff, Nat.reduceMod, Nat.reduceDiv, Int.reduceNeg, Int.reduceLE, Int.reduceLT, Int.reduceToNat, Int.reduceEq, Int.reduceNe, ↓reduceIte,  h40, decide_false]
  refine loop_by ([5, 6, 7, 9, 10, 30, 31, 32, 33, 34, 35, 36, 37, 38, 39, 40, 41, 42, 43, 44, 45, 46, 47, 48, 49, 50, 51], [10, 10]) (fun i : Nat => [(.s 29, .int .i64 (i : Int)), (.o 10, deadV i)]) (fun i => l.length - i) (fun i => i ≤ l.length) 0 rfl (Nat.zero_le _) rfl ?_
  rintro c' st' hst m hm ih
  set_option maxRecDepth 100000 in simp (maxSteps := 10000000) only [go_sem, Nat.reduceAdd, Nat.reduceSub, Nat.reduceMul, Nat.reduceLT, Nat.reduceLeDiff, Nat.reduceEqDiff, Nat.reduceMod, Nat.reduceDiv, Int.reduceNeg, Int.reduceLE, Int.reduceLT, Int.reduceToNat, Int.reduceEq, Int.reduceNe, ↓reduceIte]
  refine ifI (fun hlt => ?_) fun hlt => ?_
  · have hwm := hw _ (nth_mem hlt)
    have hin : inB (nth l m).sector 0 (cntI d - 1) = true := by
      apply Classical.byContradiction
      intro q
      rw [wE, if_pos (by simpa using q)] at hwm; cases hwm
    have h16 : ((nth l m).bytes.size : Int) = 16 := by have := (wE_zero hO hwm).2; omega
    set_option maxRecDepth 100000 in simp (maxSteps := 10000000) only [go_sem, Nat.reduceAdd, Nat.reduceSub, Nat.reduceMul, Nat.reduceLT, Nat.reduceLeDiff, Nat.reduceEqDiff, Nat.reduceMod, Nat.reduceDiv, Int.reduceNeg, Int.reduceLE, Int.reduceLT, Int.reduceToNat, Int.reduceEq, Int.reduceNe, ↓reduceIte,  hlt]
    refine callD_of (hcg) ?_
    set_option maxRecDepth 100000 in simp (maxSteps := 10000000) only [go_sem, Nat.reduceAdd, Nat.reduceSub, Nat.reduceMul, Nat.reduceLT, Nat.reduceLeDiff, Nat.reduceEqDiff, Nat.reduceMod, Nat.reduceDiv, Int.reduceNeg, Int.reduceLE, Int.reduceLT, Int.reduceToNat, Int.reduceEq, Int.reduceNe, ↓reduceIte,  hw1]
    refine callD_of (within_good _ _ _) ?_
    set_option maxRecDepth 100000 in simp (maxSteps := 10000000) only [go_sem, Nat.reduceAdd, Nat.reduceSub, Nat.reduceMul, Nat.reduceLT, Nat.reduceLeDiff, Nat.reduceEqDiff, Nat.reduceMod, Nat.reduceDiv, Int.reduceNeg, Int.reduceLE, Int.reduceLT, Int.reduceToNat, Int.reduceEq, Int.reduceNe, ↓reduceIte,  hin, Bool.not_true]
    refine ⟨by decide +kernel, ?_⟩
    set_option maxRecDepth 100000 in simp (maxSteps := 10000000) only [go_sem, Nat.reduceAdd, Nat.reduceSub, Nat.reduceMul, Nat.reduceLT, Nat.reduceLeDiff, Nat.reduceEqDiff, Nat.reduceMod, Nat.reduceDiv, Int.reduceNeg, Int.reduceLE, Int.reduceLT, Int.reduceToNat, Int.reduceEq, Int.reduceNe, ↓reduceIte,  eq_true h16, not_true_eq_false, decide_false]
    refine ih (m + 1) _ (by omega) (by omega) ?_
    set_option maxRecDepth 100000 in simp (maxSteps := 10000000) only [go_sem, Nat.reduceAdd, Nat.reduceSub, Nat.reduceMul, Nat.reduceLT, Nat.reduceLeDiff, Nat.reduceEqDiff, Nat.reduceMod, Nat.reduceDiv, Int.reduceNeg, Int.reduceLE, Int.reduceLT, Int.reduceToNat, Int.reduceEq, Int.reduceNe, ↓reduceIte,  wrap_succ (show m < 9223372036854775807 by omega)]
  subst hst
  clear ih
  set_option maxRecDepth 100000 in simp (maxSteps := 10000000) only [go_sem, Nat.reduceAdd, Nat.reduceSub, Nat.reduceMul, Nat.reduceLT, Nat.reduceLeDiff, Nat.reduceEqDiff, Nat.reduceMod, Nat.reduceDiv, Int.reduceNeg, Int.reduceLE, Int.reduceLT, Int.reduceToNat, Int.reduceEq, Int.reduceNe, ↓reduceIte,  hlt]
  refine callM_of [] [53, 30, 31, 32, 33, 34] (how) ⟨rfl, rfl, rfl, by simp, by simp, by simp, by simp, rfl, rfl, rfl, onodup_of (l := [6, 12, 13, 14, 15, 16]) rfl (by decide)⟩ ?_
  set_option maxRecDepth 100000 in simp (maxSteps := 10000000) only [go_sem, Nat.reduceAdd, Nat.reduceSub, Nat.reduceMul, Nat.reduceLT, Nat.reduceLeDiff, Nat.reduceEqDiff, Nat.reduceMod, Nat.reduceDiv, Int.reduceNeg, Int.reduceLE, Int.reduceLT, Int.reduceToNat, Int.reduceEq, Int.reduceNe, ↓reduceIte]

  refine loop_by ([5, 6, 7, 13, 14, 15, 16, 57, 58, 59, 60, 61, 62, 63, 64, 65, 66, 67, 68, 69, 70, 71, 72, 73, 74, 75, 76, 77], [14, 20, 2203064076]) (fun x : Nat × List UW => [(.s 56, .int .i64 (x.1 : Int)), (.o 14, deadV x.1), (.o 20, deadV x.1), (.o 30, .obj 1 9 1 false true (((made d x.2).at 0).secs.map encStr)), (.o 31, .obj 1 9 1 false true (((made d x.2).at 1).secs.map encStr)), (.o 32, .obj 1 9 1 false true (((made d x.2).at 2).secs.map encStr)), (.o 33, .obj 1 9 1 false true (((made d x.2).at 3).secs.map encStr)), (.o 34, .obj 1 9 1 false true (((made d x.2).at 4).secs.map encStr)), (.o 76, .obj (x.1 + 1) 64 3 false true (x.2.map encUW)), (.s 12, .ref 76 (x.1 + 1))]) (fun x => l.length - x.1)
    (fun x => x.1 ≤ l.length ∧ Okd (made d x.2) ∧ x.2.length ≤ 5 * x.1 ∧ (∀ y ∈ x.2, y.bytes.size = 16) ∧ r = runR l.length (made d x.2) x.2 x.1 (l.drop x.1)) (0, []) rfl ⟨Nat.zero_le _, hO, Nat.zero_le _, fun y hy => (by cases hy), hr.symm⟩ ?_ ?_
  · set_option maxRecDepth 100000 in simp (maxSteps := 10000000) only [go_sem, Nat.reduceAdd, Nat.reduceSub, Nat.reduceMul, Nat.reduceLT, Nat.reduceLeDiff, Nat.reduceEqDiff, Nat.reduceMod, Nat.reduceDiv, Int.reduceNeg, Int.reduceLE, Int.reduceLT, Int.reduceToNat, Int.reduceEq, Int.reduceNe, ↓reduceIte]
    simp [made]
  rintro c' st' hst ⟨i, Y⟩ ⟨hi, hOY, hY5, hY16, hrr⟩ ih
  simp only at hi hOY hY5 hY16 hrr ih ⊢
  have K := keeps_made d Y
  have hnY : (made d Y).n = 5 := K.n.trans hn
  have S := made_state Y d
  have hE : AV.agg (encDisk (made d Y)) = .agg [.int .i64 d.kind, .int .i64 d.size, .sl [[.int .i64 (d.at 0).state, .sl (((made d Y).at 0).secs.map encStr)], [.int .i64 (d.at 1).state, .sl (((made d Y).at 1).secs.map encStr)], [.int .i64 (d.at 2).state, .sl (((made d Y).at 2).secs.map encStr)], [.int .i64 (d.at 3).state, .sl (((made d Y).at 3).secs.map encStr)], [.int .i64 (d.at 4).state, .sl (((made d Y).at 4).secs.map encStr)]]] := by
    conv => lhs; rw [units_5 hnY]
    simp only [encDisk, List.map_cons, List.map_nil, encDU, K.kind, K.size, (S 0 (by omega)).1, (S 1 (by omega)).1, (S 2 (by omega)).1, (S 3 (by omega)).1, (S 4 (by omega)).1]
  set_option maxRecDepth 100000 in simp (maxSteps := 10000000) only [go_sem, Nat.reduceAdd, Nat.reduceSub, Nat.reduceMul, Nat.reduceLT, Nat.reduceLeDiff, Nat.reduceEqDiff, Nat.reduceMod, Nat.reduceDiv, Int.reduceNeg, Int.reduceLE, Int.reduceLT, Int.reduceToNat, Int.reduceEq, Int.reduceNe, ↓reduceIte]
  refine ifI (fun hlt => ?_) fun hlt => ?_
  case refine_2 =>
    have hre := runR_end (l := l) (by omega) hrr
    subst hst
    set_option maxRecDepth 100000 in simp (maxSteps := 10000000) only [go_sem, Nat.reduceAdd, Nat.reduceSub, Nat.reduceMul, Nat.reduceLT, Nat.reduceLeDiff, Nat.reduceEqDiff, Nat.reduceMod, Nat.reduceDiv, Int.reduceNeg, Int.reduceLE, Int.reduceLT, Int.reduceToNat, Int.reduceEq, Int.reduceNe, ↓reduceIte,  hlt]
    rw [hre, hE]
  have hwi := wE_zero hO (hw _ (nth_mem hlt))
  have hsI : (((nth l i).sector.toNat : Nat) : Int) = (nth l i).sector := by omega
  have hsc : (nth l i).sector.toNat < (made d Y).count := by rw [K.count]; exact hwi.1.2
  have hWr := writes_good (made d Y) hOY hsc (nth l i).bytes hwi.2
  cases hx : (made d Y).writes (nth l i).sector.toNat (nth l i).bytes with
  | none =>
    rw [WrC, hx] at hWr
    simp only [WrNo] at hWr
    rw [hE, hsI] at hWr
    have hre := runR_none hlt hrr hx
    set_option maxRecDepth 100000 in simp (maxSteps := 10000000) only [go_sem, Nat.reduceAdd, Nat.reduceSub, Nat.reduceMul, Nat.reduceLT, Nat.reduceLeDiff, Nat.reduceEqDiff, Nat.reduceMod, Nat.reduceDiv, Int.reduceNeg, Int.reduceLE, Int.reduceLT, Int.reduceToNat, Int.reduceEq, Int.reduceNe, ↓reduceIte,  hlt]
    refine callV_of (hWr) (by set_option maxRecDepth 100000 in simp (maxSteps := 10000000) only [go_sem, Nat.reduceAdd, Nat.reduceSub, Nat.reduceMul, Nat.reduceLT, Nat.reduceLeDiff, Nat.reduceEqDiff, Nat.reduceMod, Nat.reduceDiv, Int.reduceNeg, Int.reduceLE, Int.reduceLT, Int.reduceToNat, Int.reduceEq, Int.reduceNe, ↓reduceIte]) (by set_option maxRecDepth 100000 in simp (maxSteps := 10000000) only [go_sem, Nat.reduceAdd, Nat.reduceSub, Nat.reduceMul, Nat.reduceLT, Nat.reduceLeDiff, Nat.reduceEqDiff, Nat.reduceMod, Nat.reduceDiv, Int.reduceNeg, Int.reduceLE, Int.reduceLT, Int.reduceToNat, Int.reduceEq, Int.reduceNe, ↓reduceIte]) rfl ?_
    set_option maxRecDepth 100000 in simp (maxSteps := 10000000) only [go_sem, Nat.reduceAdd, Nat.reduceSub, Nat.reduceMul, Nat.reduceLT, Nat.reduceLeDiff, Nat.reduceEqDiff, Nat.reduceMod, Nat.reduceDiv, Int.reduceNeg, Int.reduceLE, Int.reduceLT, Int.reduceToNat, Int.reduceEq, Int.reduceNe, ↓reduceIte,  Bool.not_false]
    rw [hre, zD]
  | some x =>
    rw [WrC, hx] at hWr
    simp only [WrOk] at hWr
    obtain ⟨id, ver, hid, hWr⟩ := hWr
    rw [hE, hsI] at hWr
    have hid2 : (117 ≤ id) = False := eq_false (by omega)
    have hW := writes_ws hOY hsc hwi.2 hx
    have hmd := made_5 d.kind d.size (made d Y) hnY false x (by have := hW.len; omega) hW.ok (d.at 0).state (d.at 1).state (d.at 2).state (d.at 3).state (d.at 4).state
    have hre := runR_some hlt hrr hx
    set_option maxRecDepth 100000 in simp (maxSteps := 10000000) only [go_sem, Nat.reduceAdd, Nat.reduceSub, Nat.reduceMul, Nat.reduceLT, Nat.reduceLeDiff, Nat.reduceEqDiff, Nat.reduceMod, Nat.reduceDiv, Int.reduceNeg, Int.reduceLE, Int.reduceLT, Int.reduceToNat, Int.reduceEq, Int.reduceNe, ↓reduceIte,  hlt]
    refine callL_of [20] (hWr) ⟨rfl, rfl, by set_option maxRecDepth 100000 in simp (maxSteps := 10000000) only [go_sem, Nat.reduceAdd, Nat.reduceSub, Nat.reduceMul, Nat.reduceLT, Nat.reduceLeDiff, Nat.reduceEqDiff, Nat.reduceMod, Nat.reduceDiv, Int.reduceNeg, Int.reduceLE, Int.reduceLT, Int.reduceToNat, Int.reduceEq, Int.reduceNe, ↓reduceIte], by simp, by set_option maxRecDepth 100000 in simp, rfl, by set_option maxRecDepth 100000 in simp (maxSteps := 10000000) only [go_sem, Nat.reduceAdd, Nat.reduceSub, Nat.reduceMul, Nat.reduceLT, Nat.reduceLeDiff, Nat.reduceEqDiff, Nat.reduceMod, Nat.reduceDiv, Int.reduceNeg, Int.reduceLE, Int.reduceLT, Int.reduceToNat, Int.reduceEq, Int.reduceNe, ↓reduceIte], rfl, onodup_of (l := [id]) rfl (by simp)⟩ ?_
    set_option maxRecDepth 100000 in simp (maxSteps := 10000000) only [go_sem, Nat.reduceAdd, Nat.reduceSub, Nat.reduceMul, Nat.reduceLT, Nat.reduceLeDiff, Nat.reduceEqDiff, Nat.reduceMod, Nat.reduceDiv, Int.reduceNeg, Int.reduceLE, Int.reduceLT, Int.reduceToNat, Int.reduceEq, Int.reduceNe, ↓reduceIte,  hid2, Bool.not_true]
    refine callM_of [53, 30, 31, 32, 33, 34, 20] [53, 30, 31, 32, 33, 34, 20] (hmd) ⟨by simp [renA, ren1, invM, posOf, verOf, AV.cellP, Env.go], rfl, rfl, by simp, by simp, by simp, by simp, rfl, rfl, rfl, onodup_of (l := [25, 26, 27, 28, 29, 30, 31]) rfl (by decide)⟩ ?_
    set_option maxRecDepth 100000 in simp (maxSteps := 10000000) only [go_sem, Nat.reduceAdd, Nat.reduceSub, Nat.reduceMul, Nat.reduceLT, Nat.reduceLeDiff, Nat.reduceEqDiff, Nat.reduceMod, Nat.reduceDiv, Int.reduceNeg, Int.reduceLE, Int.reduceLT, Int.reduceToNat, Int.reduceEq, Int.reduceNe, ↓reduceIte,  show (Y.length + x.length) * 32 ≤ 140737488355328 by have := hW.len; omega, show Y.length + x.length ≤ maxLen by have := hW.len; unfold maxLen; omega]
    refine ih (i + 1, Y ++ x) _ ⟨by simp only; omega, by simp only; rw [made_append]; exact hOY.made hW.s16, by simp only [List.length_append]; have := hW.len; omega, fun y hy => ?_, by simp only; rw [made_append]; exact hre⟩ (by simp only; omega) ?_
    · rcases List.mem_append.1 hy with hy | hy
      · exact hY16 y hy
      · exact hW.s16 y hy
    set_option maxRecDepth 100000 in simp (maxSteps := 10000000) only [go_sem, Nat.reduceAdd, Nat.reduceSub, Nat.reduceMul, Nat.reduceLT, Nat.reduceLeDiff, Nat.reduceEqDiff, Nat.reduceMod, Nat.reduceDiv, Int.reduceNeg, Int.reduceLE, Int.reduceLT, Int.reduceToNat, Int.reduceEq, Int.reduceNe, ↓reduceIte,  wrap_succ (show i < 9223372036854775807 by omega), made_append]

end Go.Proofs.Ytdfdagfgkijpcaa.C06
