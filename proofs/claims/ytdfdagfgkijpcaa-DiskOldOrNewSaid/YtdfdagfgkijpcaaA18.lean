/- Chapter 6: power failures: for one to five units. Printed by gen_a17.py. -/
import Derived.Test.YtdfdagfgkijpcaaA16
namespace Go.Proofs.Ytdfdagfgkijpcaa.C06
open Go Go.Proofs Go.Proofs.Ytdfdagfgkijpcaa.Ab
set_option linter.unusedSimpArgs false
set_option linter.unusedVariables false
attribute [local congr] ite_ctx

def kE (y : List UW) (kept : List Int) (i : Nat) : Int := if inB (nth kept i) 0 ((y.length : Int) - 1) = false then 3 else if 0 < i ∧ nth kept i ≤ nth kept (i - 1) then 14 else 0
def kGo (y : List UW) (kept : List Int) : List Nat → Int
  | [] => 0
  | i :: l => if kE y kept i = 0 then kGo y kept l else kE y kept i
def kErr (y : List UW) (kept : List Int) : Int := kGo y kept (List.range kept.length)
def selW (y : List UW) (kept : List Int) : List UW := kept.map fun k => nth y k.toNat
theorem kGo_zero {y : List UW} {kept : List Int} : ∀ {l : List Nat}, kGo y kept l = 0 → ∀ i ∈ l, kE y kept i = 0
  | [], _, i, hi => by cases hi
  | j :: l, h, i, hi => by
    unfold kGo at h
    split at h
    · rename_i h0
      rcases List.mem_cons.1 hi with rfl | hi
      · exact h0
      · exact kGo_zero h i hi
    · rename_i h0; exact absurd h h0
theorem kGo_all {y : List UW} {kept : List Int} : ∀ {l : List Nat}, (∀ i ∈ l, kE y kept i = 0) → kGo y kept l = 0
  | [], _ => rfl
  | j :: l, h => by
    rw [kGo, if_pos (h j (List.mem_cons_self ..))]
    exact kGo_all fun i hi => h i (List.mem_cons_of_mem _ hi)
theorem kE_in {y : List UW} {kept : List Int} {i : Nat} (h : kE y kept i = 0) : inB (nth kept i) 0 ((y.length : Int) - 1) = true := by
  unfold kE at h; split at h
  · cases h
  · rename_i q; simpa using q
theorem selW_mem {y : List UW} {kept : List Int} (h : kErr y kept = 0) : ∀ x ∈ selW y kept, x ∈ y := by
  intro x hx
  obtain ⟨k, hk, rfl⟩ := List.mem_map.1 hx
  obtain ⟨i, hi, rfl⟩ := mem_nth hk
  have h1 := kE_in (kGo_zero h i (List.mem_range.2 hi))
  simp only [inB, decide_eq_true_eq] at h1
  exact nth_mem (by omega)
theorem k_step {y : List UW} {kept : List Int} {i : Nat} {r : Int} (hlt : i < kept.length) (h : r = kGo y kept ((List.range kept.length).drop i)) (he : kE y kept i = 0) : r = kGo y kept ((List.range kept.length).drop (i + 1)) := by
  rw [h, drop_nth (by simpa using hlt), range_nth hlt, kGo, if_pos he]
theorem k_out {y : List UW} {kept : List Int} {i : Nat} {r c : Int} (hlt : i < kept.length) (h : r = kGo y kept ((List.range kept.length).drop i)) (he : kE y kept i = c) (hc : c ≠ 0) : r = c := by
  rw [h, drop_nth (by simpa using hlt), range_nth hlt, kGo, if_neg (by rw [he]; exact hc), he]
theorem sel_snoc {y : List UW} {kept : List Int} {i : Nat} (h : i < kept.length) : (selW y (kept.take (i + 1))).map encUW = (selW y (kept.take i)).map encUW ++ [encUW (nth y (nth kept i).toNat)] := by
  rw [← take_snoc h]; simp [selW]

set_option maxHeartbeats 8000000 in
theorem Power_ok1 (d : Disk) (hf : FitD d) {y : List UW} (hn : d.n = 1) (hy1 : ∀ x ∈ y, okW1 d x) (l : List SW) (hy : y.length ≤ 1000) (kept : List Int) (hkl : kept.length ≤ 1000) (g : Ans Try.prog 16 [.agg (encDisk d), .sl (l.map encSW)] (.tup [.sl (y.map encUW), .int .i64 0])) (hk : kErr y kept = 0) : Ans Try.prog 18 [.agg (encDisk d), .sl (l.map encSW), .sl (kept.map encInt)] (.tup [.agg (encDisk (made d (selW y kept))), .int .i64 0]) := by
  have w1 : IntKind.wrap .i64 ((y.length : Int) - 1) = (y.length : Int) - 1 := wrap_i64 (by omega) (by omega)
  generalize hkk : kErr y kept = r at hk
  have hkk2 : r = kGo y kept ((List.range kept.length).drop 0) := hkk.symm
  have hlens : ∀ j, j < d.n → (d.at j).secs.length ≤ 1000000 := fun j hj => by have := hf.m _ (nth_mem (l := d.units) hj); exact Nat.le_trans this (by decide)
  have how := owned_1 d.kind d.size (d.at 0) (hlens 0 (by omega))
  have hdd := units_1 hn
  rw [← hdd] at how
  have hsel : ∀ x ∈ selW y kept, okW1 d x := fun x hx => hy1 x (selW_mem (by rw [hkk]; exact hk) x hx)
  have hmd := made_1 d.kind d.size d hn false (selW y kept) (by rw [selW, List.length_map]; omega) hsel (d.at 0).state
  have S := made_state (selW y kept) d
  have K := keeps_made d (selW y kept)
  have hE : AV.agg (encDisk (made d (selW y kept))) = .agg [.int .i64 d.kind, .int .i64 d.size, .sl [[.int .i64 (d.at 0).state, .sl (((made d (selW y kept)).at 0).secs.map encStr)]]] := by
    conv => lhs; rw [units_1 (K.n.trans hn)]
    simp only [encDisk, List.map_cons, List.map_nil, encDU, K.kind, K.size, (S 0 (by omega)).1]
  rw [hE]
  refine good_run [(3000016, [], [103000000000000001000059, 103000000000000001001059, 103000000000000001002059, 103000000000000001003059, 103000000000000001004059, 101000000000000000000059]), (6, [7, 11, 12, 27, 28, 29, 30, 31, 32, 33, 34, 35, 36, 37, 38, 39, 40, 41, 42, 43, 44, 45, 46, 47, 48, 49, 50, 51, 52, 53, 54, 55, 56, 57], [55, 2003064056])] mixed Try.func18 rfl Try.ntmps18 (rs := [.cell 6 24, .tmp 7]) rfl (by decide +kernel) (by kernel_rfl) rfl ?_
  rw [startE_eq 64 _ _ _ rfl rfl]
  set_option maxRecDepth 100000 in simp (maxSteps := 10000000) only [go_sem, Nat.reduceAdd, Nat.reduceSub, Nat.reduceMul, Nat.reduceLT, Nat.reduceLeDiff, Nat.reduceEqDiff, Nat.reduceMod, Nat.reduceDiv, Int.reduceNeg, Int.reduceLE, Int.reduceLT, Int.reduceToNat, Int.reduceEq, Int.reduceNe, ↓reduceIte]
  refine call_of (g) ?_
  set_option maxRecDepth 100000 in simp (maxSteps := 10000000) only [go_sem, Nat.reduceAdd, Nat.reduceSub, Nat.reduceMul, Nat.reduceLT, Nat.reduceLeDiff, Nat.reduceEqDiff, Nat.reduceMod, Nat.reduceDiv, Int.reduceNeg, Int.reduceLE, Int.reduceLT, Int.reduceToNat, Int.reduceEq, Int.reduceNe, ↓reduceIte]
  refine loop_by ([7, 11, 12, 27, 28, 29, 30, 31, 32, 33, 34, 35, 36, 37, 38, 39, 40, 41, 42, 43, 44, 45, 46, 47, 48, 49, 50, 51, 52, 53, 54, 55, 56, 57], [55, 2003064056]) (fun i : Nat => [(.s 26, .int .i64 (i : Int)), (.o 55, deadV i), (.o 56, .obj (i + 1) 64 3 false true ((selW y (kept.take i)).map encUW)), (.s 10, .ref 56 (i + 1))]) (fun i => kept.length - i) (fun i => i ≤ kept.length ∧ r = kGo y kept ((List.range kept.length).drop i)) 0 rfl ⟨Nat.zero_le _, hkk2⟩ ?_ ?_
  · set_option maxRecDepth 100000 in simp (maxSteps := 10000000) only [go_sem, Nat.reduceAdd, Nat.reduceSub, Nat.reduceMul, Nat.reduceLT, Nat.reduceLeDiff, Nat.reduceEqDiff, Nat.reduceMod, Nat.reduceDiv, Int.reduceNeg, Int.reduceLE, Int.reduceLT, Int.reduceToNat, Int.reduceEq, Int.reduceNe, ↓reduceIte]
    rfl
  rintro c' st' hst i ⟨hi, hr⟩ ih
  set_option maxRecDepth 100000 in simp (maxSteps := 10000000) only [go_sem, Nat.reduceAdd, Nat.reduceSub, Nat.reduceMul, Nat.reduceLT, Nat.reduceLeDiff, Nat.reduceEqDiff, Nat.reduceMod, Nat.reduceDiv, Int.reduceNeg, Int.reduceLE, Int.reduceLT, Int.reduceToNat, Int.reduceEq, Int.reduceNe, ↓reduceIte]
  refine ifI (fun hlt => ?_) fun hlt => ?_
  case refine_2 =>
    have hik : i = kept.length := by omega
    subst hst hik
    set_option maxRecDepth 100000 in simp (maxSteps := 10000000) only [go_sem, Nat.reduceAdd, Nat.reduceSub, Nat.reduceMul, Nat.reduceLT, Nat.reduceLeDiff, Nat.reduceEqDiff, Nat.reduceMod, Nat.reduceDiv, Int.reduceNeg, Int.reduceLE, Int.reduceLT, Int.reduceToNat, Int.reduceEq, Int.reduceNe, ↓reduceIte,  hlt, List.take_length]
    refine callM_of [] [59, 30] (how) ⟨rfl, rfl, rfl, by simp, by simp, by simp, by simp, rfl, rfl, rfl, onodup_of (l := [6, 12]) rfl (by decide)⟩ ?_
    set_option maxRecDepth 100000 in simp (maxSteps := 10000000) only [go_sem, Nat.reduceAdd, Nat.reduceSub, Nat.reduceMul, Nat.reduceLT, Nat.reduceLeDiff, Nat.reduceEqDiff, Nat.reduceMod, Nat.reduceDiv, Int.reduceNeg, Int.reduceLE, Int.reduceLT, Int.reduceToNat, Int.reduceEq, Int.reduceNe, ↓reduceIte]
    refine callM_of [59, 30, 56] [59, 30, 56] (hmd) ⟨by simp [renA, ren1, invM, posOf, verOf, AV.cellP, Env.go], rfl, rfl, by simp, by simp, by simp, by simp, rfl, rfl, rfl, onodup_of (l := [25, 26, 27]) rfl (by decide)⟩ ?_
    set_option maxRecDepth 100000 in simp (maxSteps := 10000000) only [go_sem, Nat.reduceAdd, Nat.reduceSub, Nat.reduceMul, Nat.reduceLT, Nat.reduceLeDiff, Nat.reduceEqDiff, Nat.reduceMod, Nat.reduceDiv, Int.reduceNeg, Int.reduceLE, Int.reduceLT, Int.reduceToNat, Int.reduceEq, Int.reduceNe, ↓reduceIte]
  set_option maxRecDepth 100000 in simp (maxSteps := 10000000) only [go_sem, Nat.reduceAdd, Nat.reduceSub, Nat.reduceMul, Nat.reduceLT, Nat.reduceLeDiff, Nat.reduceEqDiff, Nat.reduceMod, Nat.reduceDiv, Int.reduceNeg, Int.reduceLE, Int.reduceLT, Int.reduceToNat, Int.reduceEq, Int.reduceNe, ↓reduceIte,  hlt, w1]
  refine call_of (within_good _ _ _) ?_
  set_option maxRecDepth 100000 in simp (maxSteps := 10000000) only [go_sem, Nat.reduceAdd, Nat.reduceSub, Nat.reduceMul, Nat.reduceLT, Nat.reduceLeDiff, Nat.reduceEqDiff, Nat.reduceMod, Nat.reduceDiv, Int.reduceNeg, Int.reduceLE, Int.reduceLT, Int.reduceToNat, Int.reduceEq, Int.reduceNe, ↓reduceIte]
  refine Classical.byCases (fun hin : inB (nth kept i) 0 ((y.length : Int) - 1) = false => ?_) fun hin => ?_
  · exfalso
    rw [k_out (c := 3) hlt hr (by rw [kE, if_pos hin]) (by decide)] at hk; cases hk
  have hin' : inB (nth kept i) 0 ((y.length : Int) - 1) = true := by simpa using hin
  have hb : 0 ≤ nth kept i ∧ nth kept i < (y.length : Int) := by simp only [inB, decide_eq_true_eq] at hin'; omega
  have hbn : (nth kept i).toNat < y.length := by omega
  have hfs := fits_take (l := kept) (i := i) (b := 32) (by omega) (by decide)
  have hsl : (selW y (kept.take i)).length = (kept.take i).length := by simp [selW]
  refine Classical.byCases (fun hi0 : 0 < i => ?_) fun hi0 => ?_
  · have hi1 : ((0 : Int) < (i : Int)) = True := eq_true (by omega)
    have hpr : IntKind.wrap .i64 ((i : Int) - 1) = ((i - 1 : Nat) : Int) := wrap_pred hi0 (by omega)
    have hpl : i - 1 < kept.length := by omega
    set_option maxRecDepth 100000 in simp (maxSteps := 10000000) only [go_sem, Nat.reduceAdd, Nat.reduceSub, Nat.reduceMul, Nat.reduceLT, Nat.reduceLeDiff, Nat.reduceEqDiff, Nat.reduceMod, Nat.reduceDiv, Int.reduceNeg, Int.reduceLE, Int.reduceLT, Int.reduceToNat, Int.reduceEq, Int.reduceNe, ↓reduceIte,  hin', Bool.not_true, hi1, decide_true, hpr, hpl]
    refine ifI (fun hle => ?_) fun hle => ?_
    · exfalso
      rw [k_out (c := 14) hlt hr (by rw [kE, if_neg hin, if_pos ⟨hi0, hle⟩]) (by decide)] at hk; cases hk
    · set_option maxRecDepth 100000 in simp (maxSteps := 10000000) only [go_sem, Nat.reduceAdd, Nat.reduceSub, Nat.reduceMul, Nat.reduceLT, Nat.reduceLeDiff, Nat.reduceEqDiff, Nat.reduceMod, Nat.reduceDiv, Int.reduceNeg, Int.reduceLE, Int.reduceLT, Int.reduceToNat, Int.reduceEq, Int.reduceNe, ↓reduceIte,  hle, hb.1, hb.2, hbn, hsl, hfs.1, hfs.2]
      have hsn := sel_snoc (y := y) hlt
      simp only [encUW] at hsn
      refine ih (i + 1) _ ⟨by omega, k_step hlt hr (by rw [kE, if_neg hin, if_neg (fun q => hle q.2)])⟩ (by omega) ?_
      set_option maxRecDepth 100000 in simp (maxSteps := 10000000) only [go_sem, Nat.reduceAdd, Nat.reduceSub, Nat.reduceMul, Nat.reduceLT, Nat.reduceLeDiff, Nat.reduceEqDiff, Nat.reduceMod, Nat.reduceDiv, Int.reduceNeg, Int.reduceLE, Int.reduceLT, Int.reduceToNat, Int.reduceEq, Int.reduceNe, ↓reduceIte,  wrap_succ (show i < 9223372036854775807 by omega), hsn]
  · have hi1 : ((0 : Int) < (i : Int)) = False := eq_false (by omega)
    set_option maxRecDepth 100000 in simp (maxSteps := 10000000) only [go_sem, Nat.reduceAdd, Nat.reduceSub, Nat.reduceMul, Nat.reduceLT, Nat.reduceLeDiff, Nat.reduceEqDiff, Nat.reduceMod, Nat.reduceDiv, Int.reduceNeg, Int.reduceLE, Int.reduceLT, Int.reduceToNat, Int.reduceEq, Int.reduceNe, ↓reduceIte,  hin', Bool.not_true, hi1, decide_false, hb.1, hb.2, hbn, hsl, hfs.1, hfs.2]
    have hsn := sel_snoc (y := y) hlt
    simp only [encUW] at hsn
    refine ih (i + 1) _ ⟨by omega, k_step hlt hr (by rw [kE, if_neg hin, if_neg (fun q => hi0 q.1)])⟩ (by omega) ?_
    set_option maxRecDepth 100000 in simp (maxSteps := 10000000) only [go_sem, Nat.reduceAdd, Nat.reduceSub, Nat.reduceMul, Nat.reduceLT, Nat.reduceLeDiff, Nat.reduceEqDiff, Nat.reduceMod, Nat.reduceDiv, Int.reduceNeg, Int.reduceLE, Int.reduceLT, Int.reduceToNat, Int.reduceEq, Int.reduceNe, ↓reduceIte,  wrap_succ (show i < 9223372036854775807 by omega), hsn]
set_option maxHeartbeats 8000000 in
theorem Power_no (d : Disk) (hf : FitD d) {y : List UW} (l : List SW) (hy : y.length ≤ 1000) (kept : List Int) (hkl : kept.length ≤ 1000) (g : Ans Try.prog 16 [.agg (encDisk d), .sl (l.map encSW)] (.tup [.sl (y.map encUW), .int .i64 0])) (hk : ¬ kErr y kept = 0) : Ans Try.prog 18 [.agg (encDisk d), .sl (l.map encSW), .sl (kept.map encInt)] (.tup [zD, .int .i64 (kErr y kept)]) := by
  have w1 : IntKind.wrap .i64 ((y.length : Int) - 1) = (y.length : Int) - 1 := wrap_i64 (by omega) (by omega)
  generalize hkk : kErr y kept = r at hk
  have hkk2 : r = kGo y kept ((List.range kept.length).drop 0) := hkk.symm
  rw [zD]
  refine good_run [(3000016, [], [103000000000000001000059, 103000000000000001001059, 103000000000000001002059, 103000000000000001003059, 103000000000000001004059, 101000000000000000000059]), (6, [7, 11, 12, 27, 28, 29, 30, 31, 32, 33, 34, 35, 36, 37, 38, 39, 40, 41, 42, 43, 44, 45, 46, 47, 48, 49, 50, 51, 52, 53, 54, 55, 56, 57], [55, 2003064056])] mixed Try.func18 rfl Try.ntmps18 (rs := [.cell 6 24, .tmp 7]) rfl (by decide +kernel) (by kernel_rfl) rfl ?_
  rw [startE_eq 64 _ _ _ rfl rfl]
  set_option maxRecDepth 100000 in simp (maxSteps := 10000000) only [go_sem, Nat.reduceAdd, Nat.reduceSub, Nat.reduceMul, Nat.reduceLT, Nat.reduceLeDiff, Nat.reduceEqDiff, Nat.reduceMod, Nat.reduceDiv, Int.reduceNeg, Int.reduceLE, Int.reduceLT, Int.reduceToNat, Int.reduceEq, Int.reduceNe, ↓reduceIte]
  refine call_of (g) ?_
  set_option maxRecDepth 100000 in simp (maxSteps := 10000000) only [go_sem, Nat.reduceAdd, Nat.reduceSub, Nat.reduceMul, Nat.reduceLT, Nat.reduceLeDiff, Nat.reduceEqDiff, Nat.reduceMod, Nat.reduceDiv, Int.reduceNeg, Int.reduceLE, Int.reduceLT, Int.reduceToNat, Int.reduceEq, Int.reduceNe, ↓reduceIte]
  refine loop_by ([7, 11, 12, 27, 28, 29, 30, 31, 32, 33, 34, 35, 36, 37, 38, 39, 40, 41, 42, 43, 44, 45, 46, 47, 48, 49, 50, 51, 52, 53, 54, 55, 56, 57], [55, 2003064056]) (fun i : Nat => [(.s 26, .int .i64 (i : Int)), (.o 55, deadV i), (.o 56, .obj (i + 1) 64 3 false true ((selW y (kept.take i)).map encUW)), (.s 10, .ref 56 (i + 1))]) (fun i => kept.length - i) (fun i => i ≤ kept.length ∧ r = kGo y kept ((List.range kept.length).drop i)) 0 rfl ⟨Nat.zero_le _, hkk2⟩ ?_ ?_
  · set_option maxRecDepth 100000 in simp (maxSteps := 10000000) only [go_sem, Nat.reduceAdd, Nat.reduceSub, Nat.reduceMul, Nat.reduceLT, Nat.reduceLeDiff, Nat.reduceEqDiff, Nat.reduceMod, Nat.reduceDiv, Int.reduceNeg, Int.reduceLE, Int.reduceLT, Int.reduceToNat, Int.reduceEq, Int.reduceNe, ↓reduceIte]
    rfl
  rintro c' st' hst i ⟨hi, hr⟩ ih
  set_option maxRecDepth 100000 in simp (maxSteps := 10000000) only [go_sem, Nat.reduceAdd, Nat.reduceSub, Nat.reduceMul, Nat.reduceLT, Nat.reduceLeDiff, Nat.reduceEqDiff, Nat.reduceMod, Nat.reduceDiv, Int.reduceNeg, Int.reduceLE, Int.reduceLT, Int.reduceToNat, Int.reduceEq, Int.reduceNe, ↓reduceIte]
  refine ifI (fun hlt => ?_) fun hlt => ?_
  case refine_2 =>
    exfalso
    rw [hr, List.drop_eq_nil_of_le (by simp; omega)] at hk
    exact hk rfl
  set_option maxRecDepth 100000 in simp (maxSteps := 10000000) only [go_sem, Nat.reduceAdd, Nat.reduceSub, Nat.reduceMul, Nat.reduceLT, Nat.reduceLeDiff, Nat.reduceEqDiff, Nat.reduceMod, Nat.reduceDiv, Int.reduceNeg, Int.reduceLE, Int.reduceLT, Int.reduceToNat, Int.reduceEq, Int.reduceNe, ↓reduceIte,  hlt, w1]
  refine call_of (within_good _ _ _) ?_
  set_option maxRecDepth 100000 in simp (maxSteps := 10000000) only [go_sem, Nat.reduceAdd, Nat.reduceSub, Nat.reduceMul, Nat.reduceLT, Nat.reduceLeDiff, Nat.reduceEqDiff, Nat.reduceMod, Nat.reduceDiv, Int.reduceNeg, Int.reduceLE, Int.reduceLT, Int.reduceToNat, Int.reduceEq, Int.reduceNe, ↓reduceIte]
  refine Classical.byCases (fun hin : inB (nth kept i) 0 ((y.length : Int) - 1) = false => ?_) fun hin => ?_
  · set_option maxRecDepth 100000 in simp (maxSteps := 10000000) only [go_sem, Nat.reduceAdd, Nat.reduceSub, Nat.reduceMul, Nat.reduceLT, Nat.reduceLeDiff, Nat.reduceEqDiff, Nat.reduceMod, Nat.reduceDiv, Int.reduceNeg, Int.reduceLE, Int.reduceLT, Int.reduceToNat, Int.reduceEq, Int.reduceNe, ↓reduceIte,  hin, Bool.not_false]
    rw [k_out (c := 3) hlt hr (by rw [kE, if_pos hin]) (by decide)]
  have hin' : inB (nth kept i) 0 ((y.length : Int) - 1) = true := by simpa using hin
  have hb : 0 ≤ nth kept i ∧ nth kept i < (y.length : Int) := by simp only [inB, decide_eq_true_eq] at hin'; omega
  have hbn : (nth kept i).toNat < y.length := by omega
  have hfs := fits_take (l := kept) (i := i) (b := 32) (by omega) (by decide)
  have hsl : (selW y (kept.take i)).length = (kept.take i).length := by simp [selW]
  refine Classical.byCases (fun hi0 : 0 < i => ?_) fun hi0 => ?_
  · have hi1 : ((0 : Int) < (i : Int)) = True := eq_true (by omega)
    have hpr : IntKind.wrap .i64 ((i : Int) - 1) = ((i - 1 : Nat) : Int) := wrap_pred hi0 (by omega)
    have hpl : i - 1 < kept.length := by omega
    set_option maxRecDepth 100000 in simp (maxSteps := 10000000) only [go_sem, Nat.reduceAdd, Nat.reduceSub, Nat.reduceMul, Nat.reduceLT, Nat.reduceLeDiff, Nat.reduceEqDiff, Nat.reduceMod, Nat.reduceDiv, Int.reduceNeg, Int.reduceLE, Int.reduceLT, Int.reduceToNat, Int.reduceEq, Int.reduceNe, ↓reduceIte,  hin', Bool.not_true, hi1, decide_true, hpr, hpl]
    refine ifI (fun hle => ?_) fun hle => ?_
    · set_option maxRecDepth 100000 in simp (maxSteps := 10000000) only [go_sem, Nat.reduceAdd, Nat.reduceSub, Nat.reduceMul, Nat.reduceLT, Nat.reduceLeDiff, Nat.reduceEqDiff, Nat.reduceMod, Nat.reduceDiv, Int.reduceNeg, Int.reduceLE, Int.reduceLT, Int.reduceToNat, Int.reduceEq, Int.reduceNe, ↓reduceIte,  hle]
      rw [k_out (c := 14) hlt hr (by rw [kE, if_neg hin, if_pos ⟨hi0, hle⟩]) (by decide)]
    · set_option maxRecDepth 100000 in simp (maxSteps := 10000000) only [go_sem, Nat.reduceAdd, Nat.reduceSub, Nat.reduceMul, Nat.reduceLT, Nat.reduceLeDiff, Nat.reduceEqDiff, Nat.reduceMod, Nat.reduceDiv, Int.reduceNeg, Int.reduceLE, Int.reduceLT, Int.reduceToNat, Int.reduceEq, Int.reduceNe, ↓reduceIte,  hle, hb.1, hb.2, hbn, hsl, hfs.1, hfs.2]
      have hsn := sel_snoc (y := y) hlt
      simp only [encUW] at hsn
      refine ih (i + 1) _ ⟨by omega, k_step hlt hr (by rw [kE, if_neg hin, if_neg (fun q => hle q.2)])⟩ (by omega) ?_
      set_option maxRecDepth 100000 in simp (maxSteps := 10000000) only [go_sem, Nat.reduceAdd, Nat.reduceSub, Nat.reduceMul, Nat.reduceLT, Nat.reduceLeDiff, Nat.reduceEqDiff, Nat.reduceMod, Nat.reduceDiv, Int.reduceNeg, Int.reduceLE, Int.reduceLT, Int.reduceToNat, Int.reduceEq, Int.reduceNe, ↓reduceIte,  wrap_succ (show i < 9223372036854775807 by omega), hsn]
  · have hi1 : ((0 : Int) < (i : Int)) = False := eq_false (by omega)
    set_option maxRecDepth 100000 in simp (maxSteps := 10000000) only [go_sem, Nat.reduceAdd, Nat.reduceSub, Nat.reduceMul, Nat.reduceLT, Nat.reduceLeDiff, Nat.reduceEqDiff, Nat.reduceMod, Nat.reduceDiv, Int.reduceNeg, Int.reduceLE, Int.reduceLT, Int.reduceToNat, Int.reduceEq, Int.reduceNe, ↓reduceIte,  hin', Bool.not_true, hi1, decide_false, hb.1, hb.2, hbn, hsl, hfs.1, hfs.2]
    have hsn := sel_snoc (y := y) hlt
    simp only [encUW] at hsn
    refine ih (i + 1) _ ⟨by omega, k_step hlt hr (by rw [kE, if_neg hin, if_neg (fun q => hi0 q.1)])⟩ (by omega) ?_
    set_option maxRecDepth 100000 in simp (maxSteps := 10000000) only [go_sem, Nat.reduceAdd, Nat.reduceSub, Nat.reduceMul, Nat.reduceLT, Nat.reduceLeDiff, Nat.reduceEqDiff, Nat.reduceMod, Nat.reduceDiv, Int.reduceNeg, Int.reduceLE, Int.reduceLT, Int.reduceToNat, Int.reduceEq, Int.reduceNe, ↓reduceIte,  wrap_succ (show i < 9223372036854775807 by omega), hsn]
set_option maxHeartbeats 8000000 in
theorem Power_ok2 (d : Disk) (hf : FitD d) {y : List UW} (hn : d.n = 2) (hy1 : ∀ x ∈ y, okW1 d x) (l : List SW) (hy : y.length ≤ 1000) (kept : List Int) (hkl : kept.length ≤ 1000) (g : Ans Try.prog 16 [.agg (encDisk d), .sl (l.map encSW)] (.tup [.sl (y.map encUW), .int .i64 0])) (hk : kErr y kept = 0) : Ans Try.prog 18 [.agg (encDisk d), .sl (l.map encSW), .sl (kept.map encInt)] (.tup [.agg (encDisk (made d (selW y kept))), .int .i64 0]) := by
  have w1 : IntKind.wrap .i64 ((y.length : Int) - 1) = (y.length : Int) - 1 := wrap_i64 (by omega) (by omega)
  generalize hkk : kErr y kept = r at hk
  have hkk2 : r = kGo y kept ((List.range kept.length).drop 0) := hkk.symm
  have hlens : ∀ j, j < d.n → (d.at j).secs.length ≤ 1000000 := fun j hj => by have := hf.m _ (nth_mem (l := d.units) hj); exact Nat.le_trans this (by decide)
  have how := owned_2 d.kind d.size (d.at 0) (d.at 1) (hlens 0 (by omega)) (hlens 1 (by omega))
  have hdd := units_2 hn
  rw [← hdd] at how
  have hsel : ∀ x ∈ selW y kept, okW1 d x := fun x hx => hy1 x (selW_mem (by rw [hkk]; exact hk) x hx)
  have hmd := made_2 d.kind d.size d hn false (selW y kept) (by rw [selW, List.length_map]; omega) hsel (d.at 0).state (d.at 1).state
  have S := made_state (selW y kept) d
  have K := keeps_made d (selW y kept)
  have hE : AV.agg (encDisk (made d (selW y kept))) = .agg [.int .i64 d.kind, .int .i64 d.size, .sl [[.int .i64 (d.at 0).state, .sl (((made d (selW y kept)).at 0).secs.map encStr)], [.int .i64 (d.at 1).state, .sl (((made d (selW y kept)).at 1).secs.map encStr)]]] := by
    conv => lhs; rw [units_2 (K.n.trans hn)]
    simp only [encDisk, List.map_cons, List.map_nil, encDU, K.kind, K.size, (S 0 (by omega)).1, (S 1 (by omega)).1]
  rw [hE]
  refine good_run [(3000016, [], [103000000000000001000059, 103000000000000001001059, 103000000000000001002059, 103000000000000001003059, 103000000000000001004059, 101000000000000000000059]), (6, [7, 11, 12, 27, 28, 29, 30, 31, 32, 33, 34, 35, 36, 37, 38, 39, 40, 41, 42, 43, 44, 45, 46, 47, 48, 49, 50, 51, 52, 53, 54, 55, 56, 57], [55, 2003064056])] mixed Try.func18 rfl Try.ntmps18 (rs := [.cell 6 24, .tmp 7]) rfl (by decide +kernel) (by kernel_rfl) rfl ?_
  rw [startE_eq 64 _ _ _ rfl rfl]
  set_option maxRecDepth 100000 in simp (maxSteps := 10000000) only [go_sem, Nat.reduceAdd, Nat.reduceSub, Nat.reduceMul, Nat.reduceLT, Nat.reduceLeDiff, Nat.reduceEqDiff, Nat.reduceMod, Nat.reduceDiv, Int.reduceNeg, Int.reduceLE, Int.reduceLT, Int.reduceToNat, Int.reduceEq, Int.reduceNe, ↓reduceIte]
  refine call_of (g) ?_
  set_option maxRecDepth 100000 in simp (maxSteps := 10000000) only [go_sem, Nat.reduceAdd, Nat.reduceSub, Nat.reduceMul, Nat.reduceLT, Nat.reduceLeDiff, Nat.reduceEqDiff, Nat.reduceMod, Nat.reduceDiv, Int.reduceNeg, Int.reduceLE, Int.reduceLT, Int.reduceToNat, Int.reduceEq, Int.reduceNe, ↓reduceIte]
  refine loop_by ([7, 11, 12, 27, 28, 29, 30, 31, 32, 33, 34, 35, 36, 37, 38, 39, 40, 41, 42, 43, 44, 45, 46, 47, 48, 49, 50, 51, 52, 53, 54, 55, 56, 57], [55, 2003064056]) (fun i : Nat => [(.s 26, .int .i64 (i : Int)), (.o 55, deadV i), (.o 56, .obj (i + 1) 64 3 false true ((selW y (kept.take i)).map encUW)), (.s 10, .ref 56 (i + 1))]) (fun i => kept.length - i) (fun i => i ≤ kept.length ∧ r = kGo y kept ((List.range kept.length).drop i)) 0 rfl ⟨Nat.zero_le _, hkk2⟩ ?_ ?_
  · set_option maxRecDepth 100000 in simp (maxSteps := 10000000) only [go_sem, Nat.reduceAdd, Nat.reduceSub, Nat.reduceMul, Nat.reduceLT, Nat.reduceLeDiff, Nat.reduceEqDiff, Nat.reduceMod, Nat.reduceDiv, Int.reduceNeg, Int.reduceLE, Int.reduceLT, Int.reduceToNat, Int.reduceEq, Int.reduceNe, ↓reduceIte]
    rfl
  rintro c' st' hst i ⟨hi, hr⟩ ih
  set_option maxRecDepth 100000 in simp (maxSteps := 10000000) only [go_sem, Nat.reduceAdd, Nat.reduceSub, Nat.reduceMul, Nat.reduceLT, Nat.reduceLeDiff, Nat.reduceEqDiff, Nat.reduceMod, Nat.reduceDiv, Int.reduceNeg, Int.reduceLE, Int.reduceLT, Int.reduceToNat, Int.reduceEq, Int.reduceNe, ↓reduceIte]
  refine ifI (fun hlt => ?_) fun hlt => ?_
  case refine_2 =>
    have hik : i = kept.length := by omega
    subst hst hik
    set_option maxRecDepth 100000 in simp (maxSteps := 10000000) only [go_sem, Nat.reduceAdd, Nat.reduceSub, Nat.reduceMul, Nat.reduceLT, Nat.reduceLeDiff, Nat.reduceEqDiff, Nat.reduceMod, Nat.reduceDiv, Int.reduceNeg, Int.reduceLE, Int.reduceLT, Int.reduceToNat, Int.reduceEq, Int.reduceNe, ↓reduceIte,  hlt, List.take_length]
    refine callM_of [] [59, 30, 31] (how) ⟨rfl, rfl, rfl, by simp, by simp, by simp, by simp, rfl, rfl, rfl, onodup_of (l := [6, 12, 13]) rfl (by decide)⟩ ?_
    set_option maxRecDepth 100000 in simp (maxSteps := 10000000) only [go_sem, Nat.reduceAdd, Nat.reduceSub, Nat.reduceMul, Nat.reduceLT, Nat.reduceLeDiff, Nat.reduceEqDiff, Nat.reduceMod, Nat.reduceDiv, Int.reduceNeg, Int.reduceLE, Int.reduceLT, Int.reduceToNat, Int.reduceEq, Int.reduceNe, ↓reduceIte]
    refine callM_of [59, 30, 31, 56] [59, 30, 31, 56] (hmd) ⟨by simp [renA, ren1, invM, posOf, verOf, AV.cellP, Env.go], rfl, rfl, by simp, by simp, by simp, by simp, rfl, rfl, rfl, onodup_of (l := [25, 26, 27, 28]) rfl (by decide)⟩ ?_
    set_option maxRecDepth 100000 in simp (maxSteps := 10000000) only [go_sem, Nat.reduceAdd, Nat.reduceSub, Nat.reduceMul, Nat.reduceLT, Nat.reduceLeDiff, Nat.reduceEqDiff, Nat.reduceMod, Nat.reduceDiv, Int.reduceNeg, Int.reduceLE, Int.reduceLT, Int.reduceToNat, Int.reduceEq, Int.reduceNe, ↓reduceIte]
  set_option maxRecDepth 100000 in simp (maxSteps := 10000000) only [go_sem, Nat.reduceAdd, Nat.reduceSub, Nat.reduceMul, Nat.reduceLT, Nat.reduceLeDiff, Nat.reduceEqDiff, Nat.reduceMod, Nat.reduceDiv, Int.reduceNeg, Int.reduceLE, Int.reduceLT, Int.reduceToNat, Int.reduceEq, Int.reduceNe, ↓reduceIte,  hlt, w1]
  refine call_of (within_good _ _ _) ?_
  set_option maxRecDepth 100000 in simp (maxSteps := 10000000) only [go_sem, Nat.reduceAdd, Nat.reduceSub, Nat.reduceMul, Nat.reduceLT, Nat.reduceLeDiff, Nat.reduceEqDiff, Nat.reduceMod, Nat.reduceDiv, Int.reduceNeg, Int.reduceLE, Int.reduceLT, Int.reduceToNat, Int.reduceEq, Int.reduceNe, ↓reduceIte]
  refine Classical.byCases (fun hin : inB (nth kept i) 0 ((y.length : Int) - 1) = false => ?_) fun hin => ?_
  · exfalso
    rw [k_out (c := 3) hlt hr (by rw [kE, if_pos hin]) (by decide)] at hk; cases hk
  have hin' : inB (nth kept i) 0 ((y.length : Int) - 1) = true := by simpa using hin
  have hb : 0 ≤ nth kept i ∧ nth kept i < (y.length : Int) := by simp only [inB, decide_eq_true_eq] at hin'; omega
  have hbn : (nth kept i).toNat < y.length := by omega
  have hfs := fits_take (l := kept) (i := i) (b := 32) (by omega) (by decide)
  have hsl : (selW y (kept.take i)).length = (kept.take i).length := by simp [selW]
  refine Classical.byCases (fun hi0 : 0 < i => ?_) fun hi0 => ?_
  · have hi1 : ((0 : Int) < (i : Int)) = True := eq_true (by omega)
    have hpr : IntKind.wrap .i64 ((i : Int) - 1) = ((i - 1 : Nat) : Int) := wrap_pred hi0 (by omega)
    have hpl : i - 1 < kept.length := by omega
    set_option maxRecDepth 100000 in simp (maxSteps := 10000000) only [go_sem, Nat.reduceAdd, Nat.reduceSub, Nat.reduceMul, Nat.reduceLT, Nat.reduceLeDiff, Nat.reduceEqDiff, Nat.reduceMod, Nat.reduceDiv, Int.reduceNeg, Int.reduceLE, Int.reduceLT, Int.reduceToNat, Int.reduceEq, Int.reduceNe, ↓reduceIte,  hin', Bool.not_true, hi1, decide_true, hpr, hpl]
    refine ifI (fun hle => ?_) fun hle => ?_
    · exfalso
      rw [k_out (c := 14) hlt hr (by rw [kE, if_neg hin, if_pos ⟨hi0, hle⟩]) (by decide)] at hk; cases hk
    · set_option maxRecDepth 100000 in simp (maxSteps := 10000000) only [go_sem, Nat.reduceAdd, Nat.reduceSub, Nat.reduceMul, Nat.reduceLT, Nat.reduceLeDiff, Nat.reduceEqDiff, Nat.reduceMod, Nat.reduceDiv, Int.reduceNeg, Int.reduceLE, Int.reduceLT, Int.reduceToNat, Int.reduceEq, Int.reduceNe, ↓reduceIte,  hle, hb.1, hb.2, hbn, hsl, hfs.1, hfs.2]
      have hsn := sel_snoc (y := y) hlt
      simp only [encUW] at hsn
      refine ih (i + 1) _ ⟨by omega, k_step hlt hr (by rw [kE, if_neg hin, if_neg (fun q => hle q.2)])⟩ (by omega) ?_
      set_option maxRecDepth 100000 in simp (maxSteps := 10000000) only [go_sem, Nat.reduceAdd, Nat.reduceSub, Nat.reduceMul, Nat.reduceLT, Nat.reduceLeDiff, Nat.reduceEqDiff, Nat.reduceMod, Nat.reduceDiv, Int.reduceNeg, Int.reduceLE, Int.reduceLT, Int.reduceToNat, Int.reduceEq, Int.reduceNe, ↓reduceIte,  wrap_succ (show i < 9223372036854775807 by omega), hsn]
  · have hi1 : ((0 : Int) < (i : Int)) = False := eq_false (by omega)
    set_option maxRecDepth 100000 in simp (maxSteps := 10000000) only [go_sem, Nat.reduceAdd, Nat.reduceSub, Nat.reduceMul, Nat.reduceLT, Nat.reduceLeDiff, Nat.reduceEqDiff, Nat.reduceMod, Nat.reduceDiv, Int.reduceNeg, Int.reduceLE, Int.reduceLT, Int.reduceToNat, Int.reduceEq, Int.reduceNe, ↓reduceIte,  hin', Bool.not_true, hi1, decide_false, hb.1, hb.2, hbn, hsl, hfs.1, hfs.2]
    have hsn := sel_snoc (y := y) hlt
    simp only [encUW] at hsn
    refine ih (i + 1) _ ⟨by omega, k_step hlt hr (by rw [kE, if_neg hin, if_neg (fun q => hi0 q.1)])⟩ (by omega) ?_
    set_option maxRecDepth 100000 in simp (maxSteps := 10000000) only [go_sem, Nat.reduceAdd, Nat.reduceSub, Nat.reduceMul, Nat.reduceLT, Nat.reduceLeDiff, Nat.reduceEqDiff, Nat.reduceMod, Nat.reduceDiv, Int.reduceNeg, Int.reduceLE, Int.reduceLT, Int.reduceToNat, Int.reduceEq, Int.reduceNe, ↓reduceIte,  wrap_succ (show i < 9223372036854775807 by omega), hsn]
set_option maxHeartbeats 8000000 in
theorem Power_ok3 (d : Disk) (hf : FitD d) {y : List UW} (hn : d.n = 3) (hy1 : ∀ x ∈ y, okW1 d x) (l : List SW) (hy : y.length ≤ 1000) (kept : List Int) (hkl : kept.length ≤ 1000) (g : Ans Try.prog 16 [.agg (encDisk d), .sl (l.map encSW)] (.tup [.sl (y.map encUW), .int .i64 0])) (hk : kErr y kept = 0) : Ans Try.prog 18 [.agg (encDisk d), .sl (l.map encSW), .sl (kept.map encInt)] (.tup [.agg (encDisk (made d (selW y kept))), .int .i64 0]) := by
  have w1 : IntKind.wrap .i64 ((y.length : Int) - 1) = (y.length : Int) - 1 := wrap_i64 (by omega) (by omega)
  generalize hkk : kErr y kept = r at hk
  have hkk2 : r = kGo y kept ((List.range kept.length).drop 0) := hkk.symm
  have hlens : ∀ j, j < d.n → (d.at j).secs.length ≤ 1000000 := fun j hj => by have := hf.m _ (nth_mem (l := d.units) hj); exact Nat.le_trans this (by decide)
  have how := owned_3 d.kind d.size (d.at 0) (d.at 1) (d.at 2) (hlens 0 (by omega)) (hlens 1 (by omega)) (hlens 2 (by omega))
  have hdd := units_3 hn
  rw [← hdd] at how
  have hsel : ∀ x ∈ selW y kept, okW1 d x := fun x hx => hy1 x (selW_mem (by rw [hkk]; exact hk) x hx)
  have hmd := made_3 d.kind d.size d hn false (selW y kept) (by rw [selW, List.length_map]; omega) hsel (d.at 0).state (d.at 1).state (d.at 2).state
  have S := made_state (selW y kept) d
  have K := keeps_made d (selW y kept)
  have hE : AV.agg (encDisk (made d (selW y kept))) = .agg [.int .i64 d.kind, .int .i64 d.size, .sl [[.int .i64 (d.at 0).state, .sl (((made d (selW y kept)).at 0).secs.map encStr)], [.int .i64 (d.at 1).state, .sl (((made d (selW y kept)).at 1).secs.map encStr)], [.int .i64 (d.at 2).state, .sl (((made d (selW y kept)).at 2).secs.map encStr)]]] := by
    conv => lhs; rw [units_3 (K.n.trans hn)]
    simp only [encDisk, List.map_cons, List.map_nil, encDU, K.kind, K.size, (S 0 (by omega)).1, (S 1 (by omega)).1, (S 2 (by omega)).1]
  rw [hE]
  refine good_run [(3000016, [], [103000000000000001000059, 103000000000000001001059, 103000000000000001002059, 103000000000000001003059, 103000000000000001004059, 101000000000000000000059]), (6, [7, 11, 12, 27, 28, 29, 30, 31, 32, 33, 34, 35, 36, 37, 38, 39, 40, 41, 42, 43, 44, 45, 46, 47, 48, 49, 50, 51, 52, 53, 54, 55, 56, 57], [55, 2003064056])] mixed Try.func18 rfl Try.ntmps18 (rs := [.cell 6 24, .tmp 7]) rfl (by decide +kernel) (by kernel_rfl) rfl ?_
  rw [startE_eq 64 _ _ _ rfl rfl]
  set_option maxRecDepth 100000 in simp (maxSteps := 10000000) only [go_sem, Nat.reduceAdd, Nat.reduceSub, Nat.reduceMul, Nat.reduceLT, Nat.reduceLeDiff, Nat.reduceEqDiff, Nat.reduceMod, Nat.reduceDiv, Int.reduceNeg, Int.reduceLE, Int.reduceLT, Int.reduceToNat, Int.reduceEq, Int.reduceNe, ↓reduceIte]
  refine call_of (g) ?_
  set_option maxRecDepth 100000 in simp (maxSteps := 10000000) only [go_sem, Nat.reduceAdd, Nat.reduceSub, Nat.reduceMul, Nat.reduceLT, Nat.reduceLeDiff, Nat.reduceEqDiff, Nat.reduceMod, Nat.reduceDiv, Int.reduceNeg, Int.reduceLE, Int.reduceLT, Int.reduceToNat, Int.reduceEq, Int.reduceNe, ↓reduceIte]
  refine loop_by ([7, 11, 12, 27, 28, 29, 30, 31, 32, 33, 34, 35, 36, 37, 38, 39, 40, 41, 42, 43, 44, 45, 46, 47, 48, 49, 50, 51, 52, 53, 54, 55, 56, 57], [55, 2003064056]) (fun i : Nat => [(.s 26, .int .i64 (i : Int)), (.o 55, deadV i), (.o 56, .obj (i + 1) 64 3 false true ((selW y (kept.take i)).map encUW)), (.s 10, .ref 56 (i + 1))]) (fun i => kept.length - i) (fun i => i ≤ kept.length ∧ r = kGo y kept ((List.range kept.length).drop i)) 0 rfl ⟨Nat.zero_le _, hkk2⟩ ?_ ?_
  · set_option maxRecDepth 100000 in simp (maxSteps := 10000000) only [go_sem, Nat.reduceAdd, Nat.reduceSub, Nat.reduceMul, Nat.reduceLT, Nat.reduceLeDiff, Nat.reduceEqDiff, Nat.reduceMod, Nat.reduceDiv, Int.reduceNeg, Int.reduceLE, Int.reduceLT, Int.reduceToNat, Int.reduceEq, Int.reduceNe, ↓reduceIte]
    rfl
  rintro c' st' hst i ⟨hi, hr⟩ ih
  set_option maxRecDepth 100000 in simp (maxSteps := 10000000) only [go_sem, Nat.reduceAdd, Nat.reduceSub, Nat.reduceMul, Nat.reduceLT, Nat.reduceLeDiff, Nat.reduceEqDiff, Nat.reduceMod, Nat.reduceDiv, Int.reduceNeg, Int.reduceLE, Int.reduceLT, Int.reduceToNat, Int.reduceEq, Int.reduceNe, ↓reduceIte]
  refine ifI (fun hlt => ?_) fun hlt => ?_
  case refine_2 =>
    have hik : i = kept.length := by omega
    subst hst hik
    set_option maxRecDepth 100000 in simp (maxSteps := 10000000) only [go_sem, Nat.reduceAdd, Nat.reduceSub, Nat.reduceMul, Nat.reduceLT, Nat.reduceLeDiff, Nat.reduceEqDiff, Nat.reduceMod, Nat.reduceDiv, Int.reduceNeg, Int.reduceLE, Int.reduceLT, Int.reduceToNat, Int.reduceEq, Int.reduceNe, ↓reduceIte,  hlt, List.take_length]
    refine callM_of [] [59, 30, 31, 32] (how) ⟨rfl, rfl, rfl, by simp, by simp, by simp, by simp, rfl, rfl, rfl, onodup_of (l := [6, 12, 13, 14]) rfl (by decide)⟩ ?_
    set_option maxRecDepth 100000 in simp (maxSteps := 10000000) only [go_sem, Nat.reduceAdd, Nat.reduceSub, Nat.reduceMul, Nat.reduceLT, Nat.reduceLeDiff, Nat.reduceEqDiff, Nat.reduceMod, Nat.reduceDiv, Int.reduceNeg, Int.reduceLE, Int.reduceLT, Int.reduceToNat, Int.reduceEq, Int.reduceNe, ↓reduceIte]
    refine callM_of [59, 30, 31, 32, 56] [59, 30, 31, 32, 56] (hmd) ⟨by simp [renA, ren1, invM, posOf, verOf, AV.cellP, Env.go], rfl, rfl, by simp, by simp, by simp, by simp, rfl, rfl, rfl, onodup_of (l := [25, 26, 27, 28, 29]) rfl (by decide)⟩ ?_
    set_option maxRecDepth 100000 in simp (maxSteps := 10000000) only [go_sem, Nat.reduceAdd, Nat.reduceSub, Nat.reduceMul, Nat.reduceLT, Nat.reduceLeDiff, Nat.reduceEqDiff, Nat.reduceMod, Nat.reduceDiv, Int.reduceNeg, Int.reduceLE, Int.reduceLT, Int.reduceToNat, Int.reduceEq, Int.reduceNe, ↓reduceIte]
  set_option maxRecDepth 100000 in simp (maxSteps := 10000000) only [go_sem, Nat.reduceAdd, Nat.reduceSub, Nat.reduceMul, Nat.reduceLT, Nat.reduceLeDiff, Nat.reduceEqDiff, Nat.reduceMod, Nat.reduceDiv, Int.reduceNeg, Int.reduceLE, Int.reduceLT, Int.reduceToNat, Int.reduceEq, Int.reduceNe, ↓reduceIte,  hlt, w1]
  refine call_of (within_good _ _ _) ?_
  set_option maxRecDepth 100000 in simp (maxSteps := 10000000) only [go_sem, Nat.reduceAdd, Nat.reduceSub, Nat.reduceMul, Nat.reduceLT, Nat.reduceLeDiff, Nat.reduceEqDiff, Nat.reduceMod, Nat.reduceDiv, Int.reduceNeg, Int.reduceLE, Int.reduceLT, Int.reduceToNat, Int.reduceEq, Int.reduceNe, ↓reduceIte]
  refine Classical.byCases (fun hin : inB (nth kept i) 0 ((y.length : Int) - 1) = false => ?_) fun hin => ?_
  · exfalso
    rw [k_out (c := 3) hlt hr (by rw [kE, if_pos hin]) (by decide)] at hk; cases hk
  have hin' : inB (nth kept i) 0 ((y.length : Int) - 1) = true := by simpa using hin
  have hb : 0 ≤ nth kept i ∧ nth kept i < (y.length : Int) := by simp only [inB, decide_eq_true_eq] at hin'; omega
  have hbn : (nth kept i).toNat < y.length := by omega
  have hfs := fits_take (l := kept) (i := i) (b := 32) (by omega) (by decide)
  have hsl : (selW y (kept.take i)).length = (kept.take i).length := by simp [selW]
  refine Classical.byCases (fun hi0 : 0 < i => ?_) fun hi0 => ?_
  · have hi1 : ((0 : Int) < (i : Int)) = True := eq_true (by omega)
    have hpr : IntKind.wrap .i64 ((i : Int) - 1) = ((i - 1 : Nat) : Int) := wrap_pred hi0 (by omega)
    have hpl : i - 1 < kept.length := by omega
    set_option maxRecDepth 100000 in simp (maxSteps := 10000000) only [go_sem, Nat.reduceAdd, Nat.reduceSub, Nat.reduceMul, Nat.reduceLT, Nat.reduceLeDiff, Nat.reduceEqDiff, Nat.reduceMod, Nat.reduceDiv, Int.reduceNeg, Int.reduceLE, Int.reduceLT, Int.reduceToNat, Int.reduceEq, Int.reduceNe, ↓reduceIte,  hin', Bool.not_true, hi1, decide_true, hpr, hpl]
    refine ifI (fun hle => ?_) fun hle => ?_
    · exfalso
      rw [k_out (c := 14) hlt hr (by rw [kE, if_neg hin, if_pos ⟨hi0, hle⟩]) (by decide)] at hk; cases hk
    · set_option maxRecDepth 100000 in simp (maxSteps := 10000000) only [go_sem, Nat.reduceAdd, Nat.reduceSub, Nat.reduceMul, Nat.reduceLT, Nat.reduceLeDiff, Nat.reduceEqDiff, Nat.reduceMod, Nat.reduceDiv, Int.reduceNeg, Int.reduceLE, Int.reduceLT, Int.reduceToNat, Int.reduceEq, Int.reduceNe, ↓reduceIte,  hle, hb.1, hb.2, hbn, hsl, hfs.1, hfs.2]
      have hsn := sel_snoc (y := y) hlt
      simp only [encUW] at hsn
      refine ih (i + 1) _ ⟨by omega, k_step hlt hr (by rw [kE, if_neg hin, if_neg (fun q => hle q.2)])⟩ (by omega) ?_
      set_option maxRecDepth 100000 in simp (maxSteps := 10000000) only [go_sem, Nat.reduceAdd, Nat.reduceSub, Nat.reduceMul, Nat.reduceLT, Nat.reduceLeDiff, Nat.reduceEqDiff, Nat.reduceMod, Nat.reduceDiv, Int.reduceNeg, Int.reduceLE, Int.reduceLT, Int.reduceToNat, Int.reduceEq, Int.reduceNe, ↓reduceIte,  wrap_succ (show i < 9223372036854775807 by omega), hsn]
  · have hi1 : ((0 : Int) < (i : Int)) = False := eq_false (by omega)
    set_option maxRecDepth 100000 in simp (maxSteps := 10000000) only [go_sem, Nat.reduceAdd, Nat.reduceSub, Nat.reduceMul, Nat.reduceLT, Nat.reduceLeDiff, Nat.reduceEqDiff, Nat.reduceMod, Nat.reduceDiv, Int.reduceNeg, Int.reduceLE, Int.reduceLT, Int.reduceToNat, Int.reduceEq, Int.reduceNe, ↓reduceIte,  hin', Bool.not_true, hi1, decide_false, hb.1, hb.2, hbn, hsl, hfs.1, hfs.2]
    have hsn := sel_snoc (y := y) hlt
    simp only [encUW] at hsn
    refine ih (i + 1) _ ⟨by omega, k_step hlt hr (by rw [kE, if_neg hin, if_neg (fun q => hi0 q.1)])⟩ (by omega) ?_
    set_option maxRecDepth 100000 in simp (maxSteps := 10000000) only [go_sem, Nat.reduceAdd, Nat.reduceSub, Nat.reduceMul, Nat.reduceLT, Nat.reduceLeDiff, Nat.reduceEqDiff, Nat.reduceMod, Nat.reduceDiv, Int.reduceNeg, Int.reduceLE, Int.reduceLT, Int.reduceToNat, Int.reduceEq, Int.reduceNe, ↓reduceIte,  wrap_succ (show i < 9223372036854775807 by omega), hsn]
set_option maxHeartbeats 8000000 in
theorem Power_ok4 (d : Disk) (hf : FitD d) {y : List UW} (hn : d.n = 4) (hy1 : ∀ x ∈ y, okW1 d x) (l : List SW) (hy : y.length ≤ 1000) (kept : List Int) (hkl : kept.length ≤ 1000) (g : Ans Try.prog 16 [.agg (encDisk d), .sl (l.map encSW)] (.tup [.sl (y.map encUW), .int .i64 0])) (hk : kErr y kept = 0) : Ans Try.prog 18 [.agg (encDisk d), .sl (l.map encSW), .sl (kept.map encInt)] (.tup [.agg (encDisk (made d (selW y kept))), .int .i64 0]) := by
  have w1 : IntKind.wrap .i64 ((y.length : Int) - 1) = (y.length : Int) - 1 := wrap_i64 (by omega) (by omega)
  generalize hkk : kErr y kept = r at hk
  have hkk2 : r = kGo y kept ((List.range kept.length).drop 0) := hkk.symm
  have hlens : ∀ j, j < d.n → (d.at j).secs.length ≤ 1000000 := fun j hj => by have := hf.m _ (nth_mem (l := d.units) hj); exact Nat.le_trans this (by decide)
  have how := owned_4 d.kind d.size (d.at 0) (d.at 1) (d.at 2) (d.at 3) (hlens 0 (by omega)) (hlens 1 (by omega)) (hlens 2 (by omega)) (hlens 3 (by omega))
  have hdd := units_4 hn
  rw [← hdd] at how
  have hsel : ∀ x ∈ selW y kept, okW1 d x := fun x hx => hy1 x (selW_mem (by rw [hkk]; exact hk) x hx)
  have hmd := made_4 d.kind d.size d hn false (selW y kept) (by rw [selW, List.length_map]; omega) hsel (d.at 0).state (d.at 1).state (d.at 2).state (d.at 3).state
  have S := made_state (selW y kept) d
  have K := keeps_made d (selW y kept)
  have hE : AV.agg (encDisk (made d (selW y kept))) = .agg [.int .i64 d.kind, .int .i64 d.size, .sl [[.int .i64 (d.at 0).state, .sl (((made d (selW y kept)).at 0).secs.map encStr)], [.int .i64 (d.at 1).state, .sl (((made d (selW y kept)).at 1).secs.map encStr)], [.int .i64 (d.at 2).state, .sl (((made d (selW y kept)).at 2).secs.map encStr)], [.int .i64 (d.at 3).state, .sl (((made d (selW y kept)).at 3).secs.map encStr)]]] := by
    conv => lhs; rw [units_4 (K.n.trans hn)]
    simp only [encDisk, List.map_cons, List.map_nil, encDU, K.kind, K.size, (S 0 (by omega)).1, (S 1 (by omega)).1, (S 2 (by omega)).1, (S 3 (by omega)).1]
  rw [hE]
  refine good_run [(3000016, [], [103000000000000001000059, 103000000000000001001059, 103000000000000001002059, 103000000000000001003059, 103000000000000001004059, 101000000000000000000059]), (6, [7, 11, 12, 27, 28, 29, 30, 31, 32, 33, 34, 35, 36, 37, 38, 39, 40, 41, 42, 43, 44, 45, 46, 47, 48, 49, 50, 51, 52, 53, 54, 55, 56, 57], [55, 2003064056])] mixed Try.func18 rfl Try.ntmps18 (rs := [.cell 6 24, .tmp 7]) rfl (by decide +kernel) (by kernel_rfl) rfl ?_
  rw [startE_eq 64 _ _ _ rfl rfl]
  set_option maxRecDepth 100000 in simp (maxSteps := 10000000) only [go_sem, Nat.reduceAdd, Nat.reduceSub, Nat.reduceMul, Nat.reduceLT, Nat.reduceLeDiff, Nat.reduceEqDiff, Nat.reduceMod, Nat.reduceDiv, Int.reduceNeg, Int.reduceLE, Int.reduceLT, Int.reduceToNat, Int.reduceEq, Int.reduceNe, ↓reduceIte]
  refine call_of (g) ?_
  set_option maxRecDepth 100000 in simp (maxSteps := 10000000) only [go_sem, Nat.reduceAdd, Nat.reduceSub, Nat.reduceMul, Nat.reduceLT, Nat.reduceLeDiff, Nat.reduceEqDiff, Nat.reduceMod, Nat.reduceDiv, Int.reduceNeg, Int.reduceLE, Int.reduceLT, Int.reduceToNat, Int.reduceEq, Int.reduceNe, ↓reduceIte]
  refine loop_by ([7, 11, 12, 27, 28, 29, 30, 31, 32, 33, 34, 35, 36, 37, 38, 39, 40, 41, 42, 43, 44, 45, 46, 47, 48, 49, 50, 51, 52, 53, 54, 55, 56, 57], [55, 2003064056]) (fun i : Nat => [(.s 26, .int .i64 (i : Int)), (.o 55, deadV i), (.o 56, .obj (i + 1) 64 3 false true ((selW y (kept.take i)).map encUW)), (.s 10, .ref 56 (i + 1))]) (fun i => kept.length - i) (fun i => i ≤ kept.length ∧ r = kGo y kept ((List.range kept.length).drop i)) 0 rfl ⟨Nat.zero_le _, hkk2⟩ ?_ ?_
  · set_option maxRecDepth 100000 in simp (maxSteps := 10000000) only [go_sem, Nat.reduceAdd, Nat.reduceSub, Nat.reduceMul, Nat.reduceLT, Nat.reduceLeDiff, Nat.reduceEqDiff, Nat.reduceMod, Nat.reduceDiv, Int.reduceNeg, Int.reduceLE, Int.reduceLT, Int.reduceToNat, Int.reduceEq, Int.reduceNe, ↓reduceIte]
    rfl
  rintro c' st' hst i ⟨hi, hr⟩ ih
  set_option maxRecDepth 100000 in simp (maxSteps := 10000000) only [go_sem, Nat.reduceAdd, Nat.reduceSub, Nat.reduceMul, Nat.reduceLT, Nat.reduceLeDiff, Nat.reduceEqDiff, Nat.reduceMod, Nat.reduceDiv, Int.reduceNeg, Int.reduceLE, Int.reduceLT, Int.reduceToNat, Int.reduceEq, Int.reduceNe, ↓reduceIte]
  refine ifI (fun hlt => ?_) fun hlt => ?_
  case refine_2 =>
    have hik : i = kept.length := by omega
    subst hst hik
    set_option maxRecDepth 100000 in simp (maxSteps := 10000000) only [go_sem, Nat.reduceAdd, Nat.reduceSub, Nat.reduceMul, Nat.reduceLT, Nat.reduceLeDiff, Nat.reduceEqDiff, Nat.reduceMod, Nat.reduceDiv, Int.reduceNeg, Int.reduceLE, Int.reduceLT, Int.reduceToNat, Int.reduceEq, Int.reduceNe, ↓reduceIte,  hlt, List.take_length]
    refine callM_of [] [59, 30, 31, 32, 33] (how) ⟨rfl, rfl, rfl, by simp, by simp, by simp, by simp, rfl, rfl, rfl, onodup_of (l := [6, 12, 13, 14, 15]) rfl (by decide)⟩ ?_
    set_option maxRecDepth 100000 in simp (maxSteps := 10000000) only [go_sem, Nat.reduceAdd, Nat.reduceSub, Nat.reduceMul, Nat.reduceLT, Nat.reduceLeDiff, Nat.reduceEqDiff, Nat.reduceMod, Nat.reduceDiv, Int.reduceNeg, Int.reduceLE, Int.reduceLT, Int.reduceToNat, Int.reduceEq, Int.reduceNe, ↓reduceIte]
    refine callM_of [59, 30, 31, 32, 33, 56] [59, 30, 31, 32, 33, 56] (hmd) ⟨by simp [renA, ren1, invM, posOf, verOf, AV.cellP, Env.go], rfl, rfl, by simp, by simp, by simp, by simp, rfl, rfl, rfl, onodup_of (l := [25, 26, 27, 28, 29, 30]) rfl (by decide)⟩ ?_
    set_option maxRecDepth 100000 in simp (maxSteps := 10000000) only [go_sem, Nat.reduceAdd, Nat.reduceSub, Nat.reduceMul, Nat.reduceLT, Nat.reduceLeDiff, Nat.reduceEqDiff, Nat.reduceMod, Nat.reduceDiv, Int.reduceNeg, Int.reduceLE, Int.reduceLT, Int.reduceToNat, Int.reduceEq, Int.reduceNe, ↓reduceIte]
  set_option maxRecDepth 100000 in simp (maxSteps := 10000000) only [go_sem, Nat.reduceAdd, Nat.reduceSub, Nat.reduceMul, Nat.reduceLT, Nat.reduceLeDiff, Nat.reduceEqDiff, Nat.reduceMod, Nat.reduceDiv, Int.reduceNeg, Int.reduceLE, Int.reduceLT, Int.reduceToNat, Int.reduceEq, Int.reduceNe, ↓reduceIte,  hlt, w1]
  refine call_of (within_good _ _ _) ?_
  set_option maxRecDepth 100000 in simp (maxSteps := 10000000) only [go_sem, Nat.reduceAdd, Nat.reduceSub, Nat.reduceMul, Nat.reduceLT, Nat.reduceLeDiff, Nat.reduceEqDiff, Nat.reduceMod, Nat.reduceDiv, Int.reduceNeg, Int.reduceLE, Int.reduceLT, Int.reduceToNat, Int.reduceEq, Int.reduceNe, ↓reduceIte]
  refine Classical.byCases (fun hin : inB (nth kept i) 0 ((y.length : Int) - 1) = false => ?_) fun hin => ?_
  · exfalso
    rw [k_out (c := 3) hlt hr (by rw [kE, if_pos hin]) (by decide)] at hk; cases hk
  have hin' : inB (nth kept i) 0 ((y.length : Int) - 1) = true := by simpa using hin
  have hb : 0 ≤ nth kept i ∧ nth kept i < (y.length : Int) := by simp only [inB, decide_eq_true_eq] at hin'; omega
  have hbn : (nth kept i).toNat < y.length := by omega
  have hfs := fits_take (l := kept) (i := i) (b := 32) (by omega) (by decide)
  have hsl : (selW y (kept.take i)).length = (kept.take i).length := by simp [selW]
  refine Classical.byCases (fun hi0 : 0 < i => ?_) fun hi0 => ?_
  · have hi1 : ((0 : Int) < (i : Int)) = True := eq_true (by omega)
    have hpr : IntKind.wrap .i64 ((i : Int) - 1) = ((i - 1 : Nat) : Int) := wrap_pred hi0 (by omega)
    have hpl : i - 1 < kept.length := by omega
    set_option maxRecDepth 100000 in simp (maxSteps := 10000000) only [go_sem, Nat.reduceAdd, Nat.reduceSub, Nat.reduceMul, Nat.reduceLT, Nat.reduceLeDiff, Nat.reduceEqDiff, Nat.reduceMod, Nat.reduceDiv, Int.reduceNeg, Int.reduceLE, Int.reduceLT, Int.reduceToNat, Int.reduceEq, Int.reduceNe, ↓reduceIte,  hin', Bool.not_true, hi1, decide_true, hpr, hpl]
    refine ifI (fun hle => ?_) fun hle => ?_
    · exfalso
      rw [k_out (c := 14) hlt hr (by rw [kE, if_neg hin, if_pos ⟨hi0, hle⟩]) (by decide)] at hk; cases hk
    · set_option maxRecDepth 100000 in simp (maxSteps := 10000000) only [go_sem, Nat.reduceAdd, Nat.reduceSub, Nat.reduceMul, Nat.reduceLT, Nat.reduceLeDiff, Nat.reduceEqDiff, Nat.reduceMod, Nat.reduceDiv, Int.reduceNeg, Int.reduceLE, Int.reduceLT, Int.reduceToNat, Int.reduceEq, Int.reduceNe, ↓reduceIte,  hle, hb.1, hb.2, hbn, hsl, hfs.1, hfs.2]
      have hsn := sel_snoc (y := y) hlt
      simp only [encUW] at hsn
      refine ih (i + 1) _ ⟨by omega, k_step hlt hr (by rw [kE, if_neg hin, if_neg (fun q => hle q.2)])⟩ (by omega) ?_
      set_option maxRecDepth 100000 in simp (maxSteps := 10000000) only [go_sem, Nat.reduceAdd, Nat.reduceSub, Nat.reduceMul, Nat.reduceLT, Nat.reduceLeDiff, Nat.reduceEqDiff, Nat.reduceMod, Nat.reduceDiv, Int.reduceNeg, Int.reduceLE, Int.reduceLT, Int.reduceToNat, Int.reduceEq, Int.reduceNe, ↓reduceIte,  wrap_succ (show i < 9223372036854775807 by omega), hsn]
  · have hi1 : ((0 : Int) < (i : Int)) = False := eq_false (by omega)
    set_option maxRecDepth 100000 in simp (maxSteps := 10000000) only [go_sem, Nat.reduceAdd, Nat.reduceSub, Nat.reduceMul, Nat.reduceLT, Nat.reduceLeDiff, Nat.reduceEqDiff, Nat.reduceMod, Nat.reduceDiv, Int.reduceNeg, Int.reduceLE, Int.reduceLT, Int.reduceToNat, Int.reduceEq, Int.reduceNe, ↓reduceIte,  hin', Bool.not_true, hi1, decide_false, hb.1, hb.2, hbn, hsl, hfs.1, hfs.2]
    have hsn := sel_snoc (y := y) hlt
    simp only [encUW] at hsn
    refine ih (i + 1) _ ⟨by omega, k_step hlt hr (by rw [kE, if_neg hin, if_neg (fun q => hi0 q.1)])⟩ (by omega) ?_
    set_option maxRecDepth 100000 in simp (maxSteps := 10000000) only [go_sem, Nat.reduceAdd, Nat.reduceSub, Nat.reduceMul, Nat.reduceLT, Nat.reduceLeDiff, Nat.reduceEqDiff, Nat.reduceMod, Nat.reduceDiv, Int.reduceNeg, Int.reduceLE, Int.reduceLT, Int.reduceToNat, Int.reduceEq, Int.reduceNe, ↓reduceIte,  wrap_succ (show i < 9223372036854775807 by omega), hsn]
set_option maxHeartbeats 8000000 in
theorem Power_ok5 (d : Disk) (hf : FitD d) {y : List UW} (hn : d.n = 5) (hy1 : ∀ x ∈ y, okW1 d x) (l : List SW) (hy : y.length ≤ 1000) (kept : List Int) (hkl : kept.length ≤ 1000) (g : Ans Try.prog 16 [.agg (encDisk d), .sl (l.map encSW)] (.tup [.sl (y.map encUW), .int .i64 0])) (hk : kErr y kept = 0) : Ans Try.prog 18 [.agg (encDisk d), .sl (l.map encSW), .sl (kept.map encInt)] (.tup [.agg (encDisk (made d (selW y kept))), .int .i64 0]) := by
  have w1 : IntKind.wrap .i64 ((y.length : Int) - 1) = (y.length : Int) - 1 := wrap_i64 (by omega) (by omega)
  generalize hkk : kErr y kept = r at hk
  have hkk2 : r = kGo y kept ((List.range kept.length).drop 0) := hkk.symm
  have hlens : ∀ j, j < d.n → (d.at j).secs.length ≤ 1000000 := fun j hj => by have := hf.m _ (nth_mem (l := d.units) hj); exact Nat.le_trans this (by decide)
  have how := owned_5 d.kind d.size (d.at 0) (d.at 1) (d.at 2) (d.at 3) (d.at 4) (hlens 0 (by omega)) (hlens 1 (by omega)) (hlens 2 (by omega)) (hlens 3 (by omega)) (hlens 4 (by omega))
  have hdd := units_5 hn
  rw [← hdd] at how
  have hsel : ∀ x ∈ selW y kept, okW1 d x := fun x hx => hy1 x (selW_mem (by rw [hkk]; exact hk) x hx)
  have hmd := made_5 d.kind d.size d hn false (selW y kept) (by rw [selW, List.length_map]; omega) hsel (d.at 0).state (d.at 1).state (d.at 2).state (d.at 3).state (d.at 4).state
  have S := made_state (selW y kept) d
  have K := keeps_made d (selW y kept)
  have hE : AV.agg (encDisk (made d (selW y kept))) = .agg [.int .i64 d.kind, .int .i64 d.size, .sl [[.int .i64 (d.at 0).state, .sl (((made d (selW y kept)).at 0).secs.map encStr)], [.int .i64 (d.at 1).state, .sl (((made d (selW y kept)).at 1).secs.map encStr)], [.int .i64 (d.at 2).state, .sl (((made d (selW y kept)).at 2).secs.map encStr)], [.int .i64 (d.at 3).state, .sl (((made d (selW y kept)).at 3).secs.map encStr)], [.int .i64 (d.at 4).state, .sl (((made d (selW y kept)).at 4).secs.map encStr)]]] := by
    conv => lhs; rw [units_5 (K.n.trans hn)]
    simp only [encDisk, List.map_cons, List.map_nil, encDU, K.kind, K.size, (S 0 (by omega)).1, (S 1 (by omega)).1, (S 2 (by omega)).1, (S 3 (by omega)).1, (S 4 (by omega)).1]
  rw [hE]
  refine good_run [(3000016, [], [103000000000000001000059, 103000000000000001001059, 103000000000000001002059, 103000000000000001003059, 103000000000000001004059, 101000000000000000000059]), (6, [7, 11, 12, 27, 28, 29, 30, 31, 32, 33, 34, 35, 36, 37, 38, 39, 40, 41, 42, 43, 44, 45, 46, 47, 48, 49, 50, 51, 52, 53, 54, 55, 56, 57], [55, 2003064056])] mixed Try.func18 rfl Try.ntmps18 (rs := [.cell 6 24, .tmp 7]) rfl (by decide +kernel) (by kernel_rfl) rfl ?_
  rw [startE_eq 64 _ _ _ rfl rfl]
  set_option maxRecDepth 100000 in simp (maxSteps := 10000000) only [go_sem, Nat.reduceAdd, Nat.reduceSub, Nat.reduceMul, Nat.reduceLT, Nat.reduceLeDiff, Nat.reduceEqDiff, Nat.reduceMod, Nat.reduceDiv, Int.reduceNeg, Int.reduceLE, Int.reduceLT, Int.reduceToNat, Int.reduceEq, Int.reduceNe, ↓reduceIte]
  refine call_of (g) ?_
  set_option maxRecDepth 100000 in simp (maxSteps := 10000000) only [go_sem, Nat.reduceAdd, Nat.reduceSub, Nat.reduceMul, Nat.reduceLT, Nat.reduceLeDiff, Nat.reduceEqDiff, Nat.reduceMod, Nat.reduceDiv, Int.reduceNeg, Int.reduceLE, Int.reduceLT, Int.reduceToNat, Int.reduceEq, Int.reduceNe, ↓reduceIte]
  refine loop_by ([7, 11, 12, 27, 28, 29, 30, 31, 32, 33, 34, 35, 36, 37, 38, 39, 40, 41, 42, 43, 44, 45, 46, 47, 48, 49, 50, 51, 52, 53, 54, 55, 56, 57], [55, 2003064056]) (fun i : Nat => [(.s 26, .int .i64 (i : Int)), (.o 55, deadV i), (.o 56, .obj (i + 1) 64 3 false true ((selW y (kept.take i)).map encUW)), (.s 10, .ref 56 (i + 1))]) (fun i => kept.length - i) (fun i => i ≤ kept.length ∧ r = kGo y kept ((List.range kept.length).drop i)) 0 rfl ⟨Nat.zero_le _, hkk2⟩ ?_ ?_
  · set_option maxRecDepth 100000 in simp (maxSteps := 10000000) only [go_sem, Nat.reduceAdd, Nat.reduceSub, Nat.reduceMul, Nat.reduceLT, Nat.reduceLeDiff, Nat.reduceEqDiff, Nat.reduceMod, Nat.reduceDiv, Int.reduceNeg, Int.reduceLE, Int.reduceLT, Int.reduceToNat, Int.reduceEq, Int.reduceNe, ↓reduceIte]
    rfl
  rintro c' st' hst i ⟨hi, hr⟩ ih
  set_option maxRecDepth 100000 in simp (maxSteps := 10000000) only [go_sem, Nat.reduceAdd, Nat.reduceSub, Nat.reduceMul, Nat.reduceLT, Nat.reduceLeDiff, Nat.reduceEqDiff, Nat.reduceMod, Nat.reduceDiv, Int.reduceNeg, Int.reduceLE, Int.reduceLT, Int.reduceToNat, Int.reduceEq, Int.reduceNe, ↓reduceIte]
  refine ifI (fun hlt => ?_) fun hlt => ?_
  case refine_2 =>
    have hik : i = kept.length := by omega
    subst hst hik
    set_option maxRecDepth 100000 in simp (maxSteps := 10000000) only [go_sem, Nat.reduceAdd, Nat.reduceSub, Nat.reduceMul, Nat.reduceLT, Nat.reduceLeDiff, Nat.reduceEqDiff, Nat.reduceMod, Nat.reduceDiv, Int.reduceNeg, Int.reduceLE, Int.reduceLT, Int.reduceToNat, Int.reduceEq, Int.reduceNe, ↓reduceIte,  hlt, List.take_length]
    refine callM_of [] [59, 30, 31, 32, 33, 34] (how) ⟨rfl, rfl, rfl, by simp, by simp, by simp, by simp, rfl, rfl, rfl, onodup_of (l := [6, 12, 13, 14, 15, 16]) rfl (by decide)⟩ ?_
    set_option maxRecDepth 100000 in simp (maxSteps := 10000000) only [go_sem, Nat.reduceAdd, Nat.reduceSub, Nat.reduceMul, Nat.reduceLT, Nat.reduceLeDiff, Nat.reduceEqDiff, Nat.reduceMod, Nat.reduceDiv, Int.reduceNeg, Int.reduceLE, Int.reduceLT, Int.reduceToNat, Int.reduceEq, Int.reduceNe, ↓reduceIte]
    refine callM_of [59, 30, 31, 32, 33, 34, 56] [59, 30, 31, 32, 33, 34, 56] (hmd) ⟨by simp [renA, ren1, invM, posOf, verOf, AV.cellP, Env.go], rfl, rfl, by simp, by simp, by simp, by simp, rfl, rfl, rfl, onodup_of (l := [25, 26, 27, 28, 29, 30, 31]) rfl (by decide)⟩ ?_
    set_option maxRecDepth 100000 in simp (maxSteps := 10000000) only [go_sem, Nat.reduceAdd, Nat.reduceSub, Nat.reduceMul, Nat.reduceLT, Nat.reduceLeDiff, Nat.reduceEqDiff, Nat.reduceMod, Nat.reduceDiv, Int.reduceNeg, Int.reduceLE, Int.reduceLT, Int.reduceToNat, Int.reduceEq, Int.reduceNe, ↓reduceIte]
  set_option maxRecDepth 100000 in simp (maxSteps := 10000000) only [go_sem, Nat.reduceAdd, Nat.reduceSub, Nat.reduceMul, Nat.reduceLT, Nat.reduceLeDiff, Nat.reduceEqDiff, Nat.reduceMod, Nat.reduceDiv, Int.reduceNeg, Int.reduceLE, Int.reduceLT, Int.reduceToNat, Int.reduceEq, Int.reduceNe, ↓reduceIte,  hlt, w1]
  refine call_of (within_good _ _ _) ?_
  set_option maxRecDepth 100000 in simp (maxSteps := 10000000) only [go_sem, Nat.reduceAdd, Nat.reduceSub, Nat.reduceMul, Nat.reduceLT, Nat.reduceLeDiff, Nat.reduceEqDiff, Nat.reduceMod, Nat.reduceDiv, Int.reduceNeg, Int.reduceLE, Int.reduceLT, Int.reduceToNat, Int.reduceEq, Int.reduceNe, ↓reduceIte]
  refine Classical.byCases (fun hin : inB (nth kept i) 0 ((y.length : Int) - 1) = false => ?_) fun hin => ?_
  · exfalso
    rw [k_out (c := 3) hlt hr (by rw [kE, if_pos hin]) (by decide)] at hk; cases hk
  have hin' : inB (nth kept i) 0 ((y.length : Int) - 1) = true := by simpa using hin
  have hb : 0 ≤ nth kept i ∧ nth kept i < (y.length : Int) := by simp only [inB, decide_eq_true_eq] at hin'; omega
  have hbn : (nth kept i).toNat < y.length := by omega
  have hfs := fits_take (l := kept) (i := i) (b := 32) (by omega) (by decide)
  have hsl : (selW y (kept.take i)).length = (kept.take i).length := by simp [selW]
  refine Classical.byCases (fun hi0 : 0 < i => ?_) fun hi0 => ?_
  · have hi1 : ((0 : Int) < (i : Int)) = True := eq_true (by omega)
    have hpr : IntKind.wrap .i64 ((i : Int) - 1) = ((i - 1 : Nat) : Int) := wrap_pred hi0 (by omega)
    have hpl : i - 1 < kept.length := by omega
    set_option maxRecDepth 100000 in simp (maxSteps := 10000000) only [go_sem, Nat.reduceAdd, Nat.reduceSub, Nat.reduceMul, Nat.reduceLT, Nat.reduceLeDiff, Nat.reduceEqDiff, Nat.reduceMod, Nat.reduceDiv, Int.reduceNeg, Int.reduceLE, Int.reduceLT, Int.reduceToNat, Int.reduceEq, Int.reduceNe, ↓reduceIte,  hin', Bool.not_true, hi1, decide_true, hpr, hpl]
    refine ifI (fun hle => ?_) fun hle => ?_
    · exfalso
      rw [k_out (c := 14) hlt hr (by rw [kE, if_neg hin, if_pos ⟨hi0, hle⟩]) (by decide)] at hk; cases hk
    · set_option maxRecDepth 100000 in simp (maxSteps := 10000000) only [go_sem, Nat.reduceAdd, Nat.reduceSub, Nat.reduceMul, Nat.reduceLT, Nat.reduceLeDiff, Nat.reduceEqDiff, Nat.reduceMod, Nat.reduceDiv, Int.reduceNeg, Int.reduceLE, Int.reduceLT, Int.reduceToNat, Int.reduceEq, Int.reduceNe, ↓reduceIte,  hle, hb.1, hb.2, hbn, hsl, hfs.1, hfs.2]
      have hsn := sel_snoc (y := y) hlt
      simp only [encUW] at hsn
      refine ih (i + 1) _ ⟨by omega, k_step hlt hr (by rw [kE, if_neg hin, if_neg (fun q => hle q.2)])⟩ (by omega) ?_
      set_option maxRecDepth 100000 in simp (maxSteps := 10000000) only [go_sem, Nat.reduceAdd, Nat.reduceSub, Nat.reduceMul, Nat.reduceLT, Nat.reduceLeDiff, Nat.reduceEqDiff, Nat.reduceMod, Nat.reduceDiv, Int.reduceNeg, Int.reduceLE, Int.reduceLT, Int.reduceToNat, Int.reduceEq, Int.reduceNe, ↓reduceIte,  wrap_succ (show i < 9223372036854775807 by omega), hsn]
  · have hi1 : ((0 : Int) < (i : Int)) = False := eq_false (by omega)
    set_option maxRecDepth 100000 in simp (maxSteps := 10000000) only [go_sem, Nat.reduceAdd, Nat.reduceSub, Nat.reduceMul, Nat.reduceLT, Nat.reduceLeDiff, Nat.reduceEqDiff, Nat.reduceMod, Nat.reduceDiv, Int.reduceNeg, Int.reduceLE, Int.reduceLT, Int.reduceToNat, Int.reduceEq, Int.reduceNe, ↓reduceIte,  hin', Bool.not_true, hi1, decide_false, hb.1, hb.2, hbn, hsl, hfs.1, hfs.2]
    have hsn := sel_snoc (y := y) hlt
    simp only [encUW] at hsn
    refine ih (i + 1) _ ⟨by omega, k_step hlt hr (by rw [kE, if_neg hin, if_neg (fun q => hi0 q.1)])⟩ (by omega) ?_
    set_option maxRecDepth 100000 in simp (maxSteps := 10000000) only [go_sem, Nat.reduceAdd, Nat.reduceSub, Nat.reduceMul, Nat.reduceLT, Nat.reduceLeDiff, Nat.reduceEqDiff, Nat.reduceMod, Nat.reduceDiv, Int.reduceNeg, Int.reduceLE, Int.reduceLT, Int.reduceToNat, Int.reduceEq, Int.reduceNe, ↓reduceIte,  wrap_succ (show i < 9223372036854775807 by omega), hsn]
theorem Power_no0 (d : Disk) (l : List SW) (kept : List Int) {c : Int} (hc : ¬ c = 0) (g : Ans Try.prog 16 [.agg (encDisk d), .sl (l.map encSW)] (.tup [.nils, .int .i64 c])) : Ans Try.prog 18 [.agg (encDisk d), .sl (l.map encSW), .sl (kept.map encInt)] (.tup [zD, .int .i64 c]) := by
  rw [zD]
  refine good_run [(3000016, [], [103000000000000001000059, 103000000000000001001059, 103000000000000001002059, 103000000000000001003059, 103000000000000001004059, 101000000000000000000059]), (6, [7, 11, 12, 27, 28, 29, 30, 31, 32, 33, 34, 35, 36, 37, 38, 39, 40, 41, 42, 43, 44, 45, 46, 47, 48, 49, 50, 51, 52, 53, 54, 55, 56, 57], [55, 2003064056])] mixed Try.func18 rfl Try.ntmps18 (rs := [.cell 6 24, .tmp 7]) rfl (by decide +kernel) (by kernel_rfl) rfl ?_
  rw [startE_eq 64 _ _ _ rfl rfl]
  set_option maxRecDepth 100000 in simp (maxSteps := 10000000) only [go_sem, Nat.reduceAdd, Nat.reduceSub, Nat.reduceMul, Nat.reduceLT, Nat.reduceLeDiff, Nat.reduceEqDiff, Nat.reduceMod, Nat.reduceDiv, Int.reduceNeg, Int.reduceLE, Int.reduceLT, Int.reduceToNat, Int.reduceEq, Int.reduceNe, ↓reduceIte]
  refine call_of (g) ?_
  set_option maxRecDepth 100000 in simp (maxSteps := 10000000) only [go_sem, Nat.reduceAdd, Nat.reduceSub, Nat.reduceMul, Nat.reduceLT, Nat.reduceLeDiff, Nat.reduceEqDiff, Nat.reduceMod, Nat.reduceDiv, Int.reduceNeg, Int.reduceLE, Int.reduceLT, Int.reduceToNat, Int.reduceEq, Int.reduceNe, ↓reduceIte,  hc]
theorem Power_ok (d : Disk) (hf : FitD d) (hO : Okd d) (l : List SW) {y : List UW} (hy : y.length ≤ 1000) (hy1 : ∀ x ∈ y, okW1 d x) (kept : List Int) (hkl : kept.length ≤ 1000) (g : Ans Try.prog 16 [.agg (encDisk d), .sl (l.map encSW)] (.tup [.sl (y.map encUW), .int .i64 0])) (hk : kErr y kept = 0) :
    Ans Try.prog 18 [.agg (encDisk d), .sl (l.map encSW), .sl (kept.map encInt)] (.tup [.agg (encDisk (made d (selW y kept))), .int .i64 0]) := by
  have h5 := hO.n5
  have : d.n = 1 ∨ d.n = 2 ∨ d.n = 3 ∨ d.n = 4 ∨ d.n = 5 := by omega
  rcases this with q | q | q | q | q
  · exact Power_ok1 d hf q hy1 l hy kept hkl g hk
  · exact Power_ok2 d hf q hy1 l hy kept hkl g hk
  · exact Power_ok3 d hf q hy1 l hy kept hkl g hk
  · exact Power_ok4 d hf q hy1 l hy kept hkl g hk
  · exact Power_ok5 d hf q hy1 l hy kept hkl g hk

end Go.Proofs.Ytdfdagfgkijpcaa.C06
