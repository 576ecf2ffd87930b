/- Chapter 6: the writes to units that a write to a disk with parity makes. Printed by gen_a12.py. -/
import Derived.Test.YtdfdagfgkijpcaaA11
namespace Go.Proofs.Ytdfdagfgkijpcaa.C06
open Go Go.Proofs Go.Proofs.Ytdfdagfgkijpcaa.Ab
set_option linter.unusedSimpArgs false
set_option linter.unusedVariables false
attribute [local congr] ite_ctx


set_option maxHeartbeats 8000000 in
theorem wp_dn (d : Disk) (h : Okd d) (hk : d.kind = 2) {s : Nat} (hs : s < d.count) (b : ByteArray) (hb : b.size = 16) (hu : (d.at (d.pU s)).state = 1) (hp : (d.at (d.pP s)).state = 1) : WrNo d s b := by
  have hU : d.pU s < d.units.length := h.pU_lt s
  have hP : d.pP s < d.units.length := h.pP_lt s
  have hpl := place_good d h hs
  rw [parI, if_pos hk] at hpl
  have hU1 : ((nth d.units (d.pU s)).state = 1) = True := eq_true hu
  have hP1 : ((nth d.units (d.pP s)).state = 1) = True := eq_true hp
  have hm : (((d.pP s : Nat) : Int) = -1) = False := eq_false (by omega)
  have m1 : (0 + 1 : Nat) ≤ maxLen := by unfold maxLen; omega
  have m2 : (1 : Nat) ≤ maxLen := by unfold maxLen; omega
  have m3 : (1 + 1 : Nat) ≤ maxLen := by unfold maxLen; omega
  have m4 : (2 : Nat) ≤ maxLen := by unfold maxLen; omega
  unfold WrNo
  refine good_run [(17, [4, 5, 15, 16, 82, 83, 84, 85, 86, 87, 88, 89, 90, 91, 92, 93, 94, 95, 96, 97, 98, 99, 100, 101, 102, 103, 104, 105], [104]), (5, [10, 11, 31, 32, 33, 34, 35, 36, 37, 38, 39, 40, 41, 42, 43, 44, 45, 46], [11])] mixed Try.func57 rfl Try.ntmps57 (rs := [.tmp 4, .tmp 5]) rfl (by decide +kernel) (by kernel_rfl) rfl ?_
  rw [startE_eq 117 _ _ _ rfl rfl]
  set_option maxRecDepth 100000 in simp (maxSteps := 10000000) only [go_sem, Nat.reduceAdd, Nat.reduceSub, Nat.reduceMul, Nat.reduceLT, Nat.reduceLeDiff, Nat.reduceEqDiff, Nat.reduceMod, Nat.reduceDiv, Int.reduceNeg, Int.reduceLE, Int.reduceLT, Int.reduceToNat, Int.reduceEq, Int.reduceNe, ↓reduceIte]
  refine call_of (hpl) ?_
  set_option maxRecDepth 100000 in simp (maxSteps := 10000000) only [go_sem, Nat.reduceAdd, Nat.reduceSub, Nat.reduceMul, Nat.reduceLT, Nat.reduceLeDiff, Nat.reduceEqDiff, Nat.reduceMod, Nat.reduceDiv, Int.reduceNeg, Int.reduceLE, Int.reduceLT, Int.reduceToNat, Int.reduceEq, Int.reduceNe, ↓reduceIte,  hm, hU, hU1, hP, hP1, decide_false, decide_true, not_false_eq_true, not_true_eq_false, m1, m2, m3, m4]
set_option maxHeartbeats 8000000 in
theorem wp_d (d : Disk) (h : Okd d) (hk : d.kind = 2) {s : Nat} (hs : s < d.count) (b : ByteArray) (hb : b.size = 16) (hu : ¬ (d.at (d.pU s)).state = 1) (hp : (d.at (d.pP s)).state = 1) : WrOk d s b [⟨(d.pU s : Nat), (d.pA s : Nat), b⟩] := by
  have hU : d.pU s < d.units.length := h.pU_lt s
  have hP : d.pP s < d.units.length := h.pP_lt s
  have hpl := place_good d h hs
  rw [parI, if_pos hk] at hpl
  have hU1 : ((nth d.units (d.pU s)).state = 1) = False := eq_false hu
  have hP1 : ((nth d.units (d.pP s)).state = 1) = True := eq_true hp
  have hm : (((d.pP s : Nat) : Int) = -1) = False := eq_false (by omega)
  have m1 : (0 + 1 : Nat) ≤ maxLen := by unfold maxLen; omega
  have m2 : (1 : Nat) ≤ maxLen := by unfold maxLen; omega
  have m3 : (1 + 1 : Nat) ≤ maxLen := by unfold maxLen; omega
  have m4 : (2 : Nat) ≤ maxLen := by unfold maxLen; omega
  refine ⟨65, 1, by decide, ?_⟩
  refine goodM_run [(17, [4, 5, 15, 16, 82, 83, 84, 85, 86, 87, 88, 89, 90, 91, 92, 93, 94, 95, 96, 97, 98, 99, 100, 101, 102, 103, 104, 105], [104]), (5, [10, 11, 31, 32, 33, 34, 35, 36, 37, 38, 39, 40, 41, 42, 43, 44, 45, 46], [11])] mixed Try.func57 rfl Try.ntmps57 (rs := [.tmp 4, .tmp 5]) rfl (by decide +kernel) (by kernel_rfl) ?_
  rw [startM_eq 117 _ _ _ _ rfl rfl]
  set_option maxRecDepth 100000 in simp (maxSteps := 10000000) only [go_sem, Nat.reduceAdd, Nat.reduceSub, Nat.reduceMul, Nat.reduceLT, Nat.reduceLeDiff, Nat.reduceEqDiff, Nat.reduceMod, Nat.reduceDiv, Int.reduceNeg, Int.reduceLE, Int.reduceLT, Int.reduceToNat, Int.reduceEq, Int.reduceNe, ↓reduceIte]
  refine call_of (hpl) ?_
  set_option maxRecDepth 100000 in simp (maxSteps := 10000000) only [go_sem, Nat.reduceAdd, Nat.reduceSub, Nat.reduceMul, Nat.reduceLT, Nat.reduceLeDiff, Nat.reduceEqDiff, Nat.reduceMod, Nat.reduceDiv, Int.reduceNeg, Int.reduceLE, Int.reduceLT, Int.reduceToNat, Int.reduceEq, Int.reduceNe, ↓reduceIte,  hm, hU, hU1, hP, hP1, decide_false, decide_true, not_false_eq_true, not_true_eq_false, m1, m2, m3, m4]
  simp
set_option maxHeartbeats 8000000 in
theorem wp_b_ok (d : Disk) (h : Okd d) (hk : d.kind = 2) {s : Nat} (hs : s < d.count) (b : ByteArray) (hb : b.size = 16) (hu : ¬ (d.at (d.pU s)).state = 1) (hp : ¬ (d.at (d.pP s)).state = 1) {c : ByteArray} (hc : d.sum s b = some c) : WrOk d s b [⟨(d.pU s : Nat), (d.pA s : Nat), b⟩, ⟨(d.pP s : Nat), (d.pA s : Nat), c⟩] := by
  have hU : d.pU s < d.units.length := h.pU_lt s
  have hP : d.pP s < d.units.length := h.pP_lt s
  have hpl := place_good d h hs
  rw [parI, if_pos hk] at hpl
  have hU1 : ((nth d.units (d.pU s)).state = 1) = False := eq_false hu
  have hP1 : ((nth d.units (d.pP s)).state = 1) = False := eq_false hp
  have hm : (((d.pP s : Nat) : Int) = -1) = False := eq_false (by omega)
  have m1 : (0 + 1 : Nat) ≤ maxLen := by unfold maxLen; omega
  have m2 : (1 : Nat) ≤ maxLen := by unfold maxLen; omega
  have m3 : (1 + 1 : Nat) ≤ maxLen := by unfold maxLen; omega
  have m4 : (2 : Nat) ≤ maxLen := by unfold maxLen; omega
  have h5 := h.n2 hk
  have hA := h.pA_lt hs
  have hA10 := h.sz10
  have hd : (d.units.length : Int) - 1 = ((d.n - 1 : Nat) : Int) := by have : d.units.length = d.n := rfl; omega
  have w1 : IntKind.wrap .i64 ((d.n - 1 : Nat) : Int) = ((d.n - 1 : Nat) : Int) := wrap_nat (by omega)
  have q1 : ((d.pA s : Nat) : Int) * ((d.n - 1 : Nat) : Int) = ((d.pA s * (d.n - 1) : Nat) : Int) := (Int.natCast_mul _ _).symm
  have l1 : d.pA s * (d.n - 1) ≤ 40 := Nat.le_trans (Nat.mul_le_mul (show d.pA s ≤ 10 by omega) (show d.n - 1 ≤ 4 by omega)) (by decide)
  have w2 : IntKind.wrap .i64 ((d.pA s * (d.n - 1) : Nat) : Int) = ((d.pA s * (d.n - 1) : Nat) : Int) := wrap_nat (by omega)
  have w3 : IntKind.wrap .i64 (((d.pA s : Nat) : Int) + 1) = ((d.pA s + 1 : Nat) : Int) := wrap_succ (by omega)
  have q2 : ((d.pA s + 1 : Nat) : Int) * ((d.n - 1 : Nat) : Int) = (((d.pA s + 1) * (d.n - 1) : Nat) : Int) := (Int.natCast_mul _ _).symm
  have l2 : (d.pA s + 1) * (d.n - 1) ≤ 44 := Nat.le_trans (Nat.mul_le_mul (show d.pA s + 1 ≤ 11 by omega) (show d.n - 1 ≤ 4 by omega)) (by decide)
  have w4 : IntKind.wrap .i64 (((d.pA s + 1) * (d.n - 1) : Nat) : Int) = (((d.pA s + 1) * (d.n - 1) : Nat) : Int) := wrap_nat (by omega)
  have e2 : (d.pA s + 1) * (d.n - 1) = d.pA s * (d.n - 1) + (d.n - 1) := Nat.succ_mul _ _
  have hcount : d.pA s * (d.n - 1) + (d.n - 1) ≤ d.count := by
    unfold Disk.count
    rw [if_pos hk, ← e2]
    exact Nat.mul_le_mul_right _ hA
  refine ⟨112, 1, by decide, ?_⟩
  refine goodM_run [(17, [4, 5, 15, 16, 82, 83, 84, 85, 86, 87, 88, 89, 90, 91, 92, 93, 94, 95, 96, 97, 98, 99, 100, 101, 102, 103, 104, 105], [104]), (5, [10, 11, 31, 32, 33, 34, 35, 36, 37, 38, 39, 40, 41, 42, 43, 44, 45, 46], [11])] mixed Try.func57 rfl Try.ntmps57 (rs := [.tmp 4, .tmp 5]) rfl (by decide +kernel) (by kernel_rfl) ?_
  rw [startM_eq 117 _ _ _ _ rfl rfl]
  set_option maxRecDepth 100000 in simp (maxSteps := 10000000) only [go_sem, Nat.reduceAdd, Nat.reduceSub, Nat.reduceMul, Nat.reduceLT, Nat.reduceLeDiff, Nat.reduceEqDiff, Nat.reduceMod, Nat.reduceDiv, Int.reduceNeg, Int.reduceLE, Int.reduceLT, Int.reduceToNat, Int.reduceEq, Int.reduceNe, ↓reduceIte]
  refine call_of (hpl) ?_
  set_option maxRecDepth 100000 in simp (maxSteps := 10000000) only [go_sem, Nat.reduceAdd, Nat.reduceSub, Nat.reduceMul, Nat.reduceLT, Nat.reduceLeDiff, Nat.reduceEqDiff, Nat.reduceMod, Nat.reduceDiv, Int.reduceNeg, Int.reduceLE, Int.reduceLT, Int.reduceToNat, Int.reduceEq, Int.reduceNe, ↓reduceIte,  hm, hU, hU1, hP, hP1, decide_false, decide_true, not_false_eq_true, not_true_eq_false, m1, m2, m3, m4, hd, w1, q1, w2]
  refine loop_by ([4, 5, 15, 16, 82, 83, 84, 85, 86, 87, 88, 89, 90, 91, 92, 93, 94, 95, 96, 97, 98, 99, 100, 101, 102, 103, 104, 105], [104]) (fun x : Nat × Nat × ByteArray => [(.s 14, .int .i64 ((d.pA s * (d.n - 1) + x.1 : Nat) : Int)), (.o 104, deadV x.2.1), (.s 12, .str x.2.2)]) (fun x => d.n - 1 - x.1) (fun x => x.1 ≤ d.n - 1 ∧ x.2.2.size = 16 ∧ sumGo d (part d s x.1) b = some x.2.2) (0, 0, b) rfl ⟨Nat.zero_le _, hb, rfl⟩ ?_ ?_
  · set_option maxRecDepth 100000 in simp (maxSteps := 10000000) only [go_sem, Nat.reduceAdd, Nat.reduceSub, Nat.reduceMul, Nat.reduceLT, Nat.reduceLeDiff, Nat.reduceEqDiff, Nat.reduceMod, Nat.reduceDiv, Int.reduceNeg, Int.reduceLE, Int.reduceLT, Int.reduceToNat, Int.reduceEq, Int.reduceNe, ↓reduceIte,  Nat.add_zero]
  rintro c' st' hst ⟨j, k, e⟩ ⟨hj, he, hsm⟩ ih
  simp only at hj he hsm ih ⊢
  set_option maxRecDepth 100000 in simp (maxSteps := 10000000) only [go_sem, Nat.reduceAdd, Nat.reduceSub, Nat.reduceMul, Nat.reduceLT, Nat.reduceLeDiff, Nat.reduceEqDiff, Nat.reduceMod, Nat.reduceDiv, Int.reduceNeg, Int.reduceLE, Int.reduceLT, Int.reduceToNat, Int.reduceEq, Int.reduceNe, ↓reduceIte,  hd, w1, w3, q2, w4]
  refine ifI (fun hlt => ?_) fun hlt => ?_
  case refine_2 =>
    have hjn : j = d.n - 1 := by omega
    rw [hjn, part_all] at hsm
    have hsm2 : d.sum s b = some e := hsm
    rw [hc] at hsm2
    cases hsm2
    subst hst
    set_option maxRecDepth 100000 in simp (maxSteps := 10000000) only [go_sem, Nat.reduceAdd, Nat.reduceSub, Nat.reduceMul, Nat.reduceLT, Nat.reduceLeDiff, Nat.reduceEqDiff, Nat.reduceMod, Nat.reduceDiv, Int.reduceNeg, Int.reduceLE, Int.reduceLT, Int.reduceToNat, Int.reduceEq, Int.reduceNe, ↓reduceIte,  hlt, m1, m2, m3, m4, hm, show (1 + 1) * 32 ≤ 140737488355328 by decide]
    simp
  have hjl : j < d.n - 1 := by omega
  have hrc : d.pA s * (d.n - 1) + j < d.count := by omega
  refine Classical.byCases (fun hjs : ((d.pA s * (d.n - 1) + j : Nat) : Int) = (s : Int) => ?_) fun hjs => ?_
  · have hjs2 : d.pA s * (d.n - 1) + j = s := by omega
    have hps := part_succ d s j
    rw [if_pos hjs2, List.append_nil] at hps
    set_option maxRecDepth 100000 in simp (maxSteps := 10000000) only [go_sem, Nat.reduceAdd, Nat.reduceSub, Nat.reduceMul, Nat.reduceLT, Nat.reduceLeDiff, Nat.reduceEqDiff, Nat.reduceMod, Nat.reduceDiv, Int.reduceNeg, Int.reduceLE, Int.reduceLT, Int.reduceToNat, Int.reduceEq, Int.reduceNe, ↓reduceIte,  hlt, eq_true hjs, decide_true]
    refine ih (j + 1, k, e) _ ⟨by simp only; omega, he, by simp only; rw [hps]; exact hsm⟩ (by simp only; omega) ?_
    set_option maxRecDepth 100000 in simp (maxSteps := 10000000) only [go_sem, Nat.reduceAdd, Nat.reduceSub, Nat.reduceMul, Nat.reduceLT, Nat.reduceLeDiff, Nat.reduceEqDiff, Nat.reduceMod, Nat.reduceDiv, Int.reduceNeg, Int.reduceLE, Int.reduceLT, Int.reduceToNat, Int.reduceEq, Int.reduceNe, ↓reduceIte,  wrap_succ (show d.pA s * (d.n - 1) + j < 9223372036854775807 by omega), ← Nat.add_assoc]
  have hjs2 : ¬ d.pA s * (d.n - 1) + j = s := fun q => hjs (by rw [q])
  have hrd := read_good d h hrc
  unfold readT at hrd
  cases hx : d.read (d.pA s * (d.n - 1) + j) with
  | none =>
    rw [sum_none hjl hjs2 hsm hx] at hc; cases hc
  | some y =>
    rw [hx] at hrd
    have hy := h.read16 hrc hx
    have hX := Xor_good [e, y] (by show 2 ≤ 1000000; decide) (by
      intro z hz
      simp only [List.mem_cons, List.not_mem_nil, or_false] at hz
      rcases hz with rfl | rfl
      · exact he
      · exact hy)
    rw [xorL_two] at hX
    have hps := part_succ d s j
    rw [if_neg hjs2] at hps
    set_option maxRecDepth 100000 in simp (maxSteps := 10000000) only [go_sem, Nat.reduceAdd, Nat.reduceSub, Nat.reduceMul, Nat.reduceLT, Nat.reduceLeDiff, Nat.reduceEqDiff, Nat.reduceMod, Nat.reduceDiv, Int.reduceNeg, Int.reduceLE, Int.reduceLT, Int.reduceToNat, Int.reduceEq, Int.reduceNe, ↓reduceIte,  hlt, eq_false hjs, decide_false]
    refine call_of (hrd) ?_
    set_option maxRecDepth 100000 in simp (maxSteps := 10000000) only [go_sem, Nat.reduceAdd, Nat.reduceSub, Nat.reduceMul, Nat.reduceLT, Nat.reduceLeDiff, Nat.reduceEqDiff, Nat.reduceMod, Nat.reduceDiv, Int.reduceNeg, Int.reduceLE, Int.reduceLT, Int.reduceToNat, Int.reduceEq, Int.reduceNe, ↓reduceIte,  Bool.not_true, show 2 * 1 ≤ 16777216 by decide]
    refine call_of (hX) ?_
    set_option maxRecDepth 100000 in simp (maxSteps := 10000000) only [go_sem, Nat.reduceAdd, Nat.reduceSub, Nat.reduceMul, Nat.reduceLT, Nat.reduceLeDiff, Nat.reduceEqDiff, Nat.reduceMod, Nat.reduceDiv, Int.reduceNeg, Int.reduceLE, Int.reduceLT, Int.reduceToNat, Int.reduceEq, Int.reduceNe, ↓reduceIte]
    refine ih (j + 1, k + 1, xorB e y) _ ⟨by simp only; omega, size_xorB _ _, ?_⟩ (by simp only; omega) ?_
    · simp only
      rw [hps, sumGo_append _ hsm]
      simp only [sumGo, hx]
    · set_option maxRecDepth 100000 in simp (maxSteps := 10000000) only [go_sem, Nat.reduceAdd, Nat.reduceSub, Nat.reduceMul, Nat.reduceLT, Nat.reduceLeDiff, Nat.reduceEqDiff, Nat.reduceMod, Nat.reduceDiv, Int.reduceNeg, Int.reduceLE, Int.reduceLT, Int.reduceToNat, Int.reduceEq, Int.reduceNe, ↓reduceIte,  wrap_succ (show d.pA s * (d.n - 1) + j < 9223372036854775807 by omega), ← Nat.add_assoc]
set_option maxHeartbeats 8000000 in
theorem wp_b_no (d : Disk) (h : Okd d) (hk : d.kind = 2) {s : Nat} (hs : s < d.count) (b : ByteArray) (hb : b.size = 16) (hu : ¬ (d.at (d.pU s)).state = 1) (hp : ¬ (d.at (d.pP s)).state = 1) (hc : d.sum s b = none) : WrNo d s b := by
  have hU : d.pU s < d.units.length := h.pU_lt s
  have hP : d.pP s < d.units.length := h.pP_lt s
  have hpl := place_good d h hs
  rw [parI, if_pos hk] at hpl
  have hU1 : ((nth d.units (d.pU s)).state = 1) = False := eq_false hu
  have hP1 : ((nth d.units (d.pP s)).state = 1) = False := eq_false hp
  have hm : (((d.pP s : Nat) : Int) = -1) = False := eq_false (by omega)
  have m1 : (0 + 1 : Nat) ≤ maxLen := by unfold maxLen; omega
  have m2 : (1 : Nat) ≤ maxLen := by unfold maxLen; omega
  have m3 : (1 + 1 : Nat) ≤ maxLen := by unfold maxLen; omega
  have m4 : (2 : Nat) ≤ maxLen := by unfold maxLen; omega
  have h5 := h.n2 hk
  have hA := h.pA_lt hs
  have hA10 := h.sz10
  have hd : (d.units.length : Int) - 1 = ((d.n - 1 : Nat) : Int) := by have : d.units.length = d.n := rfl; omega
  have w1 : IntKind.wrap .i64 ((d.n - 1 : Nat) : Int) = ((d.n - 1 : Nat) : Int) := wrap_nat (by omega)
  have q1 : ((d.pA s : Nat) : Int) * ((d.n - 1 : Nat) : Int) = ((d.pA s * (d.n - 1) : Nat) : Int) := (Int.natCast_mul _ _).symm
  have l1 : d.pA s * (d.n - 1) ≤ 40 := Nat.le_trans (Nat.mul_le_mul (show d.pA s ≤ 10 by omega) (show d.n - 1 ≤ 4 by omega)) (by decide)
  have w2 : IntKind.wrap .i64 ((d.pA s * (d.n - 1) : Nat) : Int) = ((d.pA s * (d.n - 1) : Nat) : Int) := wrap_nat (by omega)
  have w3 : IntKind.wrap .i64 (((d.pA s : Nat) : Int) + 1) = ((d.pA s + 1 : Nat) : Int) := wrap_succ (by omega)
  have q2 : ((d.pA s + 1 : Nat) : Int) * ((d.n - 1 : Nat) : Int) = (((d.pA s + 1) * (d.n - 1) : Nat) : Int) := (Int.natCast_mul _ _).symm
  have l2 : (d.pA s + 1) * (d.n - 1) ≤ 44 := Nat.le_trans (Nat.mul_le_mul (show d.pA s + 1 ≤ 11 by omega) (show d.n - 1 ≤ 4 by omega)) (by decide)
  have w4 : IntKind.wrap .i64 (((d.pA s + 1) * (d.n - 1) : Nat) : Int) = (((d.pA s + 1) * (d.n - 1) : Nat) : Int) := wrap_nat (by omega)
  have e2 : (d.pA s + 1) * (d.n - 1) = d.pA s * (d.n - 1) + (d.n - 1) := Nat.succ_mul _ _
  have hcount : d.pA s * (d.n - 1) + (d.n - 1) ≤ d.count := by
    unfold Disk.count
    rw [if_pos hk, ← e2]
    exact Nat.mul_le_mul_right _ hA
  unfold WrNo
  refine good_run [(17, [4, 5, 15, 16, 82, 83, 84, 85, 86, 87, 88, 89, 90, 91, 92, 93, 94, 95, 96, 97, 98, 99, 100, 101, 102, 103, 104, 105], [104]), (5, [10, 11, 31, 32, 33, 34, 35, 36, 37, 38, 39, 40, 41, 42, 43, 44, 45, 46], [11])] mixed Try.func57 rfl Try.ntmps57 (rs := [.tmp 4, .tmp 5]) rfl (by decide +kernel) (by kernel_rfl) rfl ?_
  rw [startE_eq 117 _ _ _ rfl rfl]
  set_option maxRecDepth 100000 in simp (maxSteps := 10000000) only [go_sem, Nat.reduceAdd, Nat.reduceSub, Nat.reduceMul, Nat.reduceLT, Nat.reduceLeDiff, Nat.reduceEqDiff, Nat.reduceMod, Nat.reduceDiv, Int.reduceNeg, Int.reduceLE, Int.reduceLT, Int.reduceToNat, Int.reduceEq, Int.reduceNe, ↓reduceIte]
  refine call_of (hpl) ?_
  set_option maxRecDepth 100000 in simp (maxSteps := 10000000) only [go_sem, Nat.reduceAdd, Nat.reduceSub, Nat.reduceMul, Nat.reduceLT, Nat.reduceLeDiff, Nat.reduceEqDiff, Nat.reduceMod, Nat.reduceDiv, Int.reduceNeg, Int.reduceLE, Int.reduceLT, Int.reduceToNat, Int.reduceEq, Int.reduceNe, ↓reduceIte,  hm, hU, hU1, hP, hP1, decide_false, decide_true, not_false_eq_true, not_true_eq_false, m1, m2, m3, m4, hd, w1, q1, w2]
  refine loop_by ([4, 5, 15, 16, 82, 83, 84, 85, 86, 87, 88, 89, 90, 91, 92, 93, 94, 95, 96, 97, 98, 99, 100, 101, 102, 103, 104, 105], [104]) (fun x : Nat × Nat × ByteArray => [(.s 14, .int .i64 ((d.pA s * (d.n - 1) + x.1 : Nat) : Int)), (.o 104, deadV x.2.1), (.s 12, .str x.2.2)]) (fun x => d.n - 1 - x.1) (fun x => x.1 ≤ d.n - 1 ∧ x.2.2.size = 16 ∧ sumGo d (part d s x.1) b = some x.2.2) (0, 0, b) rfl ⟨Nat.zero_le _, hb, rfl⟩ ?_ ?_
  · set_option maxRecDepth 100000 in simp (maxSteps := 10000000) only [go_sem, Nat.reduceAdd, Nat.reduceSub, Nat.reduceMul, Nat.reduceLT, Nat.reduceLeDiff, Nat.reduceEqDiff, Nat.reduceMod, Nat.reduceDiv, Int.reduceNeg, Int.reduceLE, Int.reduceLT, Int.reduceToNat, Int.reduceEq, Int.reduceNe, ↓reduceIte,  Nat.add_zero]
  rintro c' st' hst ⟨j, k, e⟩ ⟨hj, he, hsm⟩ ih
  simp only at hj he hsm ih ⊢
  set_option maxRecDepth 100000 in simp (maxSteps := 10000000) only [go_sem, Nat.reduceAdd, Nat.reduceSub, Nat.reduceMul, Nat.reduceLT, Nat.reduceLeDiff, Nat.reduceEqDiff, Nat.reduceMod, Nat.reduceDiv, Int.reduceNeg, Int.reduceLE, Int.reduceLT, Int.reduceToNat, Int.reduceEq, Int.reduceNe, ↓reduceIte,  hd, w1, w3, q2, w4]
  refine ifI (fun hlt => ?_) fun hlt => ?_
  case refine_2 =>
    have hjn : j = d.n - 1 := by omega
    rw [hjn, part_all] at hsm
    have hsm2 : d.sum s b = some e := hsm
    rw [hc] at hsm2; cases hsm2
  have hjl : j < d.n - 1 := by omega
  have hrc : d.pA s * (d.n - 1) + j < d.count := by omega
  refine Classical.byCases (fun hjs : ((d.pA s * (d.n - 1) + j : Nat) : Int) = (s : Int) => ?_) fun hjs => ?_
  · have hjs2 : d.pA s * (d.n - 1) + j = s := by omega
    have hps := part_succ d s j
    rw [if_pos hjs2, List.append_nil] at hps
    set_option maxRecDepth 100000 in simp (maxSteps := 10000000) only [go_sem, Nat.reduceAdd, Nat.reduceSub, Nat.reduceMul, Nat.reduceLT, Nat.reduceLeDiff, Nat.reduceEqDiff, Nat.reduceMod, Nat.reduceDiv, Int.reduceNeg, Int.reduceLE, Int.reduceLT, Int.reduceToNat, Int.reduceEq, Int.reduceNe, ↓reduceIte,  hlt, eq_true hjs, decide_true]
    refine ih (j + 1, k, e) _ ⟨by simp only; omega, he, by simp only; rw [hps]; exact hsm⟩ (by simp only; omega) ?_
    set_option maxRecDepth 100000 in simp (maxSteps := 10000000) only [go_sem, Nat.reduceAdd, Nat.reduceSub, Nat.reduceMul, Nat.reduceLT, Nat.reduceLeDiff, Nat.reduceEqDiff, Nat.reduceMod, Nat.reduceDiv, Int.reduceNeg, Int.reduceLE, Int.reduceLT, Int.reduceToNat, Int.reduceEq, Int.reduceNe, ↓reduceIte,  wrap_succ (show d.pA s * (d.n - 1) + j < 9223372036854775807 by omega), ← Nat.add_assoc]
  have hjs2 : ¬ d.pA s * (d.n - 1) + j = s := fun q => hjs (by rw [q])
  have hrd := read_good d h hrc
  unfold readT at hrd
  cases hx : d.read (d.pA s * (d.n - 1) + j) with
  | none =>
    rw [hx] at hrd
    set_option maxRecDepth 100000 in simp (maxSteps := 10000000) only [go_sem, Nat.reduceAdd, Nat.reduceSub, Nat.reduceMul, Nat.reduceLT, Nat.reduceLeDiff, Nat.reduceEqDiff, Nat.reduceMod, Nat.reduceDiv, Int.reduceNeg, Int.reduceLE, Int.reduceLT, Int.reduceToNat, Int.reduceEq, Int.reduceNe, ↓reduceIte,  hlt, eq_false hjs, decide_false]
    refine call_of (hrd) ?_
    set_option maxRecDepth 100000 in simp (maxSteps := 10000000) only [go_sem, Nat.reduceAdd, Nat.reduceSub, Nat.reduceMul, Nat.reduceLT, Nat.reduceLeDiff, Nat.reduceEqDiff, Nat.reduceMod, Nat.reduceDiv, Int.reduceNeg, Int.reduceLE, Int.reduceLT, Int.reduceToNat, Int.reduceEq, Int.reduceNe, ↓reduceIte,  Bool.not_false]
  | some y =>
    rw [hx] at hrd
    have hy := h.read16 hrc hx
    have hX := Xor_good [e, y] (by show 2 ≤ 1000000; decide) (by
      intro z hz
      simp only [List.mem_cons, List.not_mem_nil, or_false] at hz
      rcases hz with rfl | rfl
      · exact he
      · exact hy)
    rw [xorL_two] at hX
    have hps := part_succ d s j
    rw [if_neg hjs2] at hps
    set_option maxRecDepth 100000 in simp (maxSteps := 10000000) only [go_sem, Nat.reduceAdd, Nat.reduceSub, Nat.reduceMul, Nat.reduceLT, Nat.reduceLeDiff, Nat.reduceEqDiff, Nat.reduceMod, Nat.reduceDiv, Int.reduceNeg, Int.reduceLE, Int.reduceLT, Int.reduceToNat, Int.reduceEq, Int.reduceNe, ↓reduceIte,  hlt, eq_false hjs, decide_false]
    refine call_of (hrd) ?_
    set_option maxRecDepth 100000 in simp (maxSteps := 10000000) only [go_sem, Nat.reduceAdd, Nat.reduceSub, Nat.reduceMul, Nat.reduceLT, Nat.reduceLeDiff, Nat.reduceEqDiff, Nat.reduceMod, Nat.reduceDiv, Int.reduceNeg, Int.reduceLE, Int.reduceLT, Int.reduceToNat, Int.reduceEq, Int.reduceNe, ↓reduceIte,  Bool.not_true, show 2 * 1 ≤ 16777216 by decide]
    refine call_of (hX) ?_
    set_option maxRecDepth 100000 in simp (maxSteps := 10000000) only [go_sem, Nat.reduceAdd, Nat.reduceSub, Nat.reduceMul, Nat.reduceLT, Nat.reduceLeDiff, Nat.reduceEqDiff, Nat.reduceMod, Nat.reduceDiv, Int.reduceNeg, Int.reduceLE, Int.reduceLT, Int.reduceToNat, Int.reduceEq, Int.reduceNe, ↓reduceIte]
    refine ih (j + 1, k + 1, xorB e y) _ ⟨by simp only; omega, size_xorB _ _, ?_⟩ (by simp only; omega) ?_
    · simp only
      rw [hps, sumGo_append _ hsm]
      simp only [sumGo, hx]
    · set_option maxRecDepth 100000 in simp (maxSteps := 10000000) only [go_sem, Nat.reduceAdd, Nat.reduceSub, Nat.reduceMul, Nat.reduceLT, Nat.reduceLeDiff, Nat.reduceEqDiff, Nat.reduceMod, Nat.reduceDiv, Int.reduceNeg, Int.reduceLE, Int.reduceLT, Int.reduceToNat, Int.reduceEq, Int.reduceNe, ↓reduceIte,  wrap_succ (show d.pA s * (d.n - 1) + j < 9223372036854775807 by omega), ← Nat.add_assoc]
set_option maxHeartbeats 8000000 in
theorem wp_p_ok (d : Disk) (h : Okd d) (hk : d.kind = 2) {s : Nat} (hs : s < d.count) (b : ByteArray) (hb : b.size = 16) (hu : (d.at (d.pU s)).state = 1) (hp : ¬ (d.at (d.pP s)).state = 1) {c : ByteArray} (hc : d.sum s b = some c) : WrOk d s b [⟨(d.pP s : Nat), (d.pA s : Nat), c⟩] := by
  have hU : d.pU s < d.units.length := h.pU_lt s
  have hP : d.pP s < d.units.length := h.pP_lt s
  have hpl := place_good d h hs
  rw [parI, if_pos hk] at hpl
  have hU1 : ((nth d.units (d.pU s)).state = 1) = True := eq_true hu
  have hP1 : ((nth d.units (d.pP s)).state = 1) = False := eq_false hp
  have hm : (((d.pP s : Nat) : Int) = -1) = False := eq_false (by omega)
  have m1 : (0 + 1 : Nat) ≤ maxLen := by unfold maxLen; omega
  have m2 : (1 : Nat) ≤ maxLen := by unfold maxLen; omega
  have m3 : (1 + 1 : Nat) ≤ maxLen := by unfold maxLen; omega
  have m4 : (2 : Nat) ≤ maxLen := by unfold maxLen; omega
  have h5 := h.n2 hk
  have hA := h.pA_lt hs
  have hA10 := h.sz10
  have hd : (d.units.length : Int) - 1 = ((d.n - 1 : Nat) : Int) := by have : d.units.length = d.n := rfl; omega
  have w1 : IntKind.wrap .i64 ((d.n - 1 : Nat) : Int) = ((d.n - 1 : Nat) : Int) := wrap_nat (by omega)
  have q1 : ((d.pA s : Nat) : Int) * ((d.n - 1 : Nat) : Int) = ((d.pA s * (d.n - 1) : Nat) : Int) := (Int.natCast_mul _ _).symm
  have l1 : d.pA s * (d.n - 1) ≤ 40 := Nat.le_trans (Nat.mul_le_mul (show d.pA s ≤ 10 by omega) (show d.n - 1 ≤ 4 by omega)) (by decide)
  have w2 : IntKind.wrap .i64 ((d.pA s * (d.n - 1) : Nat) : Int) = ((d.pA s * (d.n - 1) : Nat) : Int) := wrap_nat (by omega)
  have w3 : IntKind.wrap .i64 (((d.pA s : Nat) : Int) + 1) = ((d.pA s + 1 : Nat) : Int) := wrap_succ (by omega)
  have q2 : ((d.pA s + 1 : Nat) : Int) * ((d.n - 1 : Nat) : Int) = (((d.pA s + 1) * (d.n - 1) : Nat) : Int) := (Int.natCast_mul _ _).symm
  have l2 : (d.pA s + 1) * (d.n - 1) ≤ 44 := Nat.le_trans (Nat.mul_le_mul (show d.pA s + 1 ≤ 11 by omega) (show d.n - 1 ≤ 4 by omega)) (by decide)
  have w4 : IntKind.wrap .i64 (((d.pA s + 1) * (d.n - 1) : Nat) : Int) = (((d.pA s + 1) * (d.n - 1) : Nat) : Int) := wrap_nat (by omega)
  have e2 : (d.pA s + 1) * (d.n - 1) = d.pA s * (d.n - 1) + (d.n - 1) := Nat.succ_mul _ _
  have hcount : d.pA s * (d.n - 1) + (d.n - 1) ≤ d.count := by
    unfold Disk.count
    rw [if_pos hk, ← e2]
    exact Nat.mul_le_mul_right _ hA
  refine ⟨112, 1, by decide, ?_⟩
  refine goodM_run [(17, [4, 5, 15, 16, 82, 83, 84, 85, 86, 87, 88, 89, 90, 91, 92, 93, 94, 95, 96, 97, 98, 99, 100, 101, 102, 103, 104, 105], [104]), (5, [10, 11, 31, 32, 33, 34, 35, 36, 37, 38, 39, 40, 41, 42, 43, 44, 45, 46], [11])] mixed Try.func57 rfl Try.ntmps57 (rs := [.tmp 4, .tmp 5]) rfl (by decide +kernel) (by kernel_rfl) ?_
  rw [startM_eq 117 _ _ _ _ rfl rfl]
  set_option maxRecDepth 100000 in simp (maxSteps := 10000000) only [go_sem, Nat.reduceAdd, Nat.reduceSub, Nat.reduceMul, Nat.reduceLT, Nat.reduceLeDiff, Nat.reduceEqDiff, Nat.reduceMod, Nat.reduceDiv, Int.reduceNeg, Int.reduceLE, Int.reduceLT, Int.reduceToNat, Int.reduceEq, Int.reduceNe, ↓reduceIte]
  refine call_of (hpl) ?_
  set_option maxRecDepth 100000 in simp (maxSteps := 10000000) only [go_sem, Nat.reduceAdd, Nat.reduceSub, Nat.reduceMul, Nat.reduceLT, Nat.reduceLeDiff, Nat.reduceEqDiff, Nat.reduceMod, Nat.reduceDiv, Int.reduceNeg, Int.reduceLE, Int.reduceLT, Int.reduceToNat, Int.reduceEq, Int.reduceNe, ↓reduceIte,  hm, hU, hU1, hP, hP1, decide_false, decide_true, not_false_eq_true, not_true_eq_false, m1, m2, m3, m4, hd, w1, q1, w2]
  refine loop_by ([4, 5, 15, 16, 82, 83, 84, 85, 86, 87, 88, 89, 90, 91, 92, 93, 94, 95, 96, 97, 98, 99, 100, 101, 102, 103, 104, 105], [104]) (fun x : Nat × Nat × ByteArray => [(.s 14, .int .i64 ((d.pA s * (d.n - 1) + x.1 : Nat) : Int)), (.o 104, deadV x.2.1), (.s 12, .str x.2.2)]) (fun x => d.n - 1 - x.1) (fun x => x.1 ≤ d.n - 1 ∧ x.2.2.size = 16 ∧ sumGo d (part d s x.1) b = some x.2.2) (0, 0, b) rfl ⟨Nat.zero_le _, hb, rfl⟩ ?_ ?_
  · set_option maxRecDepth 100000 in simp (maxSteps := 10000000) only [go_sem, Nat.reduceAdd, Nat.reduceSub, Nat.reduceMul, Nat.reduceLT, Nat.reduceLeDiff, Nat.reduceEqDiff, Nat.reduceMod, Nat.reduceDiv, Int.reduceNeg, Int.reduceLE, Int.reduceLT, Int.reduceToNat, Int.reduceEq, Int.reduceNe, ↓reduceIte,  Nat.add_zero]
  rintro c' st' hst ⟨j, k, e⟩ ⟨hj, he, hsm⟩ ih
  simp only at hj he hsm ih ⊢
  set_option maxRecDepth 100000 in simp (maxSteps := 10000000) only [go_sem, Nat.reduceAdd, Nat.reduceSub, Nat.reduceMul, Nat.reduceLT, Nat.reduceLeDiff, Nat.reduceEqDiff, Nat.reduceMod, Nat.reduceDiv, Int.reduceNeg, Int.reduceLE, Int.reduceLT, Int.reduceToNat, Int.reduceEq, Int.reduceNe, ↓reduceIte,  hd, w1, w3, q2, w4]
  refine ifI (fun hlt => ?_) fun hlt => ?_
  case refine_2 =>
    have hjn : j = d.n - 1 := by omega
    rw [hjn, part_all] at hsm
    have hsm2 : d.sum s b = some e := hsm
    rw [hc] at hsm2
    cases hsm2
    subst hst
    set_option maxRecDepth 100000 in simp (maxSteps := 10000000) only [go_sem, Nat.reduceAdd, Nat.reduceSub, Nat.reduceMul, Nat.reduceLT, Nat.reduceLeDiff, Nat.reduceEqDiff, Nat.reduceMod, Nat.reduceDiv, Int.reduceNeg, Int.reduceLE, Int.reduceLT, Int.reduceToNat, Int.reduceEq, Int.reduceNe, ↓reduceIte,  hlt, m1, m2, m3, m4, hm, show (1 + 1) * 32 ≤ 140737488355328 by decide]
    simp
  have hjl : j < d.n - 1 := by omega
  have hrc : d.pA s * (d.n - 1) + j < d.count := by omega
  refine Classical.byCases (fun hjs : ((d.pA s * (d.n - 1) + j : Nat) : Int) = (s : Int) => ?_) fun hjs => ?_
  · have hjs2 : d.pA s * (d.n - 1) + j = s := by omega
    have hps := part_succ d s j
    rw [if_pos hjs2, List.append_nil] at hps
    set_option maxRecDepth 100000 in simp (maxSteps := 10000000) only [go_sem, Nat.reduceAdd, Nat.reduceSub, Nat.reduceMul, Nat.reduceLT, Nat.reduceLeDiff, Nat.reduceEqDiff, Nat.reduceMod, Nat.reduceDiv, Int.reduceNeg, Int.reduceLE, Int.reduceLT, Int.reduceToNat, Int.reduceEq, Int.reduceNe, ↓reduceIte,  hlt, eq_true hjs, decide_true]
    refine ih (j + 1, k, e) _ ⟨by simp only; omega, he, by simp only; rw [hps]; exact hsm⟩ (by simp only; omega) ?_
    set_option maxRecDepth 100000 in simp (maxSteps := 10000000) only [go_sem, Nat.reduceAdd, Nat.reduceSub, Nat.reduceMul, Nat.reduceLT, Nat.reduceLeDiff, Nat.reduceEqDiff, Nat.reduceMod, Nat.reduceDiv, Int.reduceNeg, Int.reduceLE, Int.reduceLT, Int.reduceToNat, Int.reduceEq, Int.reduceNe, ↓reduceIte,  wrap_succ (show d.pA s * (d.n - 1) + j < 9223372036854775807 by omega), ← Nat.add_assoc]
  have hjs2 : ¬ d.pA s * (d.n - 1) + j = s := fun q => hjs (by rw [q])
  have hrd := read_good d h hrc
  unfold readT at hrd
  cases hx : d.read (d.pA s * (d.n - 1) + j) with
  | none =>
    rw [sum_none hjl hjs2 hsm hx] at hc; cases hc
  | some y =>
    rw [hx] at hrd
    have hy := h.read16 hrc hx
    have hX := Xor_good [e, y] (by show 2 ≤ 1000000; decide) (by
      intro z hz
      simp only [List.mem_cons, List.not_mem_nil, or_false] at hz
      rcases hz with rfl | rfl
      · exact he
      · exact hy)
    rw [xorL_two] at hX
    have hps := part_succ d s j
    rw [if_neg hjs2] at hps
    set_option maxRecDepth 100000 in simp (maxSteps := 10000000) only [go_sem, Nat.reduceAdd, Nat.reduceSub, Nat.reduceMul, Nat.reduceLT, Nat.reduceLeDiff, Nat.reduceEqDiff, Nat.reduceMod, Nat.reduceDiv, Int.reduceNeg, Int.reduceLE, Int.reduceLT, Int.reduceToNat, Int.reduceEq, Int.reduceNe, ↓reduceIte,  hlt, eq_false hjs, decide_false]
    refine call_of (hrd) ?_
    set_option maxRecDepth 100000 in simp (maxSteps := 10000000) only [go_sem, Nat.reduceAdd, Nat.reduceSub, Nat.reduceMul, Nat.reduceLT, Nat.reduceLeDiff, Nat.reduceEqDiff, Nat.reduceMod, Nat.reduceDiv, Int.reduceNeg, Int.reduceLE, Int.reduceLT, Int.reduceToNat, Int.reduceEq, Int.reduceNe, ↓reduceIte,  Bool.not_true, show 2 * 1 ≤ 16777216 by decide]
    refine call_of (hX) ?_
    set_option maxRecDepth 100000 in simp (maxSteps := 10000000) only [go_sem, Nat.reduceAdd, Nat.reduceSub, Nat.reduceMul, Nat.reduceLT, Nat.reduceLeDiff, Nat.reduceEqDiff, Nat.reduceMod, Nat.reduceDiv, Int.reduceNeg, Int.reduceLE, Int.reduceLT, Int.reduceToNat, Int.reduceEq, Int.reduceNe, ↓reduceIte]
    refine ih (j + 1, k + 1, xorB e y) _ ⟨by simp only; omega, size_xorB _ _, ?_⟩ (by simp only; omega) ?_
    · simp only
      rw [hps, sumGo_append _ hsm]
      simp only [sumGo, hx]
    · set_option maxRecDepth 100000 in simp (maxSteps := 10000000) only [go_sem, Nat.reduceAdd, Nat.reduceSub, Nat.reduceMul, Nat.reduceLT, Nat.reduceLeDiff, Nat.reduceEqDiff, Nat.reduceMod, Nat.reduceDiv, Int.reduceNeg, Int.reduceLE, Int.reduceLT, Int.reduceToNat, Int.reduceEq, Int.reduceNe, ↓reduceIte,  wrap_succ (show d.pA s * (d.n - 1) + j < 9223372036854775807 by omega), ← Nat.add_assoc]
set_option maxHeartbeats 8000000 in
theorem wp_p_no (d : Disk) (h : Okd d) (hk : d.kind = 2) {s : Nat} (hs : s < d.count) (b : ByteArray) (hb : b.size = 16) (hu : (d.at (d.pU s)).state = 1) (hp : ¬ (d.at (d.pP s)).state = 1) (hc : d.sum s b = none) : WrNo d s b := by
  have hU : d.pU s < d.units.length := h.pU_lt s
  have hP : d.pP s < d.units.length := h.pP_lt s
  have hpl := place_good d h hs
  rw [parI, if_pos hk] at hpl
  have hU1 : ((nth d.units (d.pU s)).state = 1) = True := eq_true hu
  have hP1 : ((nth d.units (d.pP s)).state = 1) = False := eq_false hp
  have hm : (((d.pP s : Nat) : Int) = -1) = False := eq_false (by omega)
  have m1 : (0 + 1 : Nat) ≤ maxLen := by unfold maxLen; omega
  have m2 : (1 : Nat) ≤ maxLen := by unfold maxLen; omega
  have m3 : (1 + 1 : Nat) ≤ maxLen := by unfold maxLen; omega
  have m4 : (2 : Nat) ≤ maxLen := by unfold maxLen; omega
  have h5 := h.n2 hk
  have hA := h.pA_lt hs
  have hA10 := h.sz10
  have hd : (d.units.length : Int) - 1 = ((d.n - 1 : Nat) : Int) := by have : d.units.length = d.n := rfl; omega
  have w1 : IntKind.wrap .i64 ((d.n - 1 : Nat) : Int) = ((d.n - 1 : Nat) : Int) := wrap_nat (by omega)
  have q1 : ((d.pA s : Nat) : Int) * ((d.n - 1 : Nat) : Int) = ((d.pA s * (d.n - 1) : Nat) : Int) := (Int.natCast_mul _ _).symm
  have l1 : d.pA s * (d.n - 1) ≤ 40 := Nat.le_trans (Nat.mul_le_mul (show d.pA s ≤ 10 by omega) (show d.n - 1 ≤ 4 by omega)) (by decide)
  have w2 : IntKind.wrap .i64 ((d.pA s * (d.n - 1) : Nat) : Int) = ((d.pA s * (d.n - 1) : Nat) : Int) := wrap_nat (by omega)
  have w3 : IntKind.wrap .i64 (((d.pA s : Nat) : Int) + 1) = ((d.pA s + 1 : Nat) : Int) := wrap_succ (by omega)
  have q2 : ((d.pA s + 1 : Nat) : Int) * ((d.n - 1 : Nat) : Int) = (((d.pA s + 1) * (d.n - 1) : Nat) : Int) := (Int.natCast_mul _ _).symm
  have l2 : (d.pA s + 1) * (d.n - 1) ≤ 44 := Nat.le_trans (Nat.mul_le_mul (show d.pA s + 1 ≤ 11 by omega) (show d.n - 1 ≤ 4 by omega)) (by decide)
  have w4 : IntKind.wrap .i64 (((d.pA s + 1) * (d.n - 1) : Nat) : Int) = (((d.pA s + 1) * (d.n - 1) : Nat) : Int) := wrap_nat (by omega)
  have e2 : (d.pA s + 1) * (d.n - 1) = d.pA s * (d.n - 1) + (d.n - 1) := Nat.succ_mul _ _
  have hcount : d.pA s * (d.n - 1) + (d.n - 1) ≤ d.count := by
    unfold Disk.count
    rw [if_pos hk, ← e2]
    exact Nat.mul_le_mul_right _ hA
  unfold WrNo
  refine good_run [(17, [4, 5, 15, 16, 82, 83, 84, 85, 86, 87, 88, 89, 90, 91, 92, 93, 94, 95, 96, 97, 98, 99, 100, 101, 102, 103, 104, 105], [104]), (5, [10, 11, 31, 32, 33, 34, 35, 36, 37, 38, 39, 40, 41, 42, 43, 44, 45, 46], [11])] mixed Try.func57 rfl Try.ntmps57 (rs := [.tmp 4, .tmp 5]) rfl (by decide +kernel) (by kernel_rfl) rfl ?_
  rw [startE_eq 117 _ _ _ rfl rfl]
  set_option maxRecDepth 100000 in simp (maxSteps := 10000000) only [go_sem, Nat.reduceAdd, Nat.reduceSub, Nat.reduceMul, Nat.reduceLT, Nat.reduceLeDiff, Nat.reduceEqDiff, Nat.reduceMod, Nat.reduceDiv, Int.reduceNeg, Int.reduceLE, Int.reduceLT, Int.reduceToNat, Int.reduceEq, Int.reduceNe, ↓reduceIte]
  refine call_of (hpl) ?_
  set_option maxRecDepth 100000 in simp (maxSteps := 10000000) only [go_sem, Nat.reduceAdd, Nat.reduceSub, Nat.reduceMul, Nat.reduceLT, Nat.reduceLeDiff, Nat.reduceEqDiff, Nat.reduceMod, Nat.reduceDiv, Int.reduceNeg, Int.reduceLE, Int.reduceLT, Int.reduceToNat, Int.reduceEq, Int.reduceNe, ↓reduceIte,  hm, hU, hU1, hP, hP1, decide_false, decide_true, not_false_eq_true, not_true_eq_false, m1, m2, m3, m4, hd, w1, q1, w2]
  refine loop_by ([4, 5, 15, 16, 82, 83, 84, 85, 86, 87, 88, 89, 90, 91, 92, 93, 94, 95, 96, 97, 98, 99, 100, 101, 102, 103, 104, 105], [104]) (fun x : Nat × Nat × ByteArray => [(.s 14, .int .i64 ((d.pA s * (d.n - 1) + x.1 : Nat) : Int)), (.o 104, deadV x.2.1), (.s 12, .str x.2.2)]) (fun x => d.n - 1 - x.1) (fun x => x.1 ≤ d.n - 1 ∧ x.2.2.size = 16 ∧ sumGo d (part d s x.1) b = some x.2.2) (0, 0, b) rfl ⟨Nat.zero_le _, hb, rfl⟩ ?_ ?_
  · set_option maxRecDepth 100000 in simp (maxSteps := 10000000) only [go_sem, Nat.reduceAdd, Nat.reduceSub, Nat.reduceMul, Nat.reduceLT, Nat.reduceLeDiff, Nat.reduceEqDiff, Nat.reduceMod, Nat.reduceDiv, Int.reduceNeg, Int.reduceLE, Int.reduceLT, Int.reduceToNat, Int.reduceEq, Int.reduceNe, ↓reduceIte,  Nat.add_zero]
  rintro c' st' hst ⟨j, k, e⟩ ⟨hj, he, hsm⟩ ih
  simp only at hj he hsm ih ⊢
  set_option maxRecDepth 100000 in simp (maxSteps := 10000000) only [go_sem, Nat.reduceAdd, Nat.reduceSub, Nat.reduceMul, Nat.reduceLT, Nat.reduceLeDiff, Nat.reduceEqDiff, Nat.reduceMod, Nat.reduceDiv, Int.reduceNeg, Int.reduceLE, Int.reduceLT, Int.reduceToNat, Int.reduceEq, Int.reduceNe, ↓reduceIte,  hd, w1, w3, q2, w4]
  refine ifI (fun hlt => ?_) fun hlt => ?_
  case refine_2 =>
    have hjn : j = d.n - 1 := by omega
    rw [hjn, part_all] at hsm
    have hsm2 : d.sum s b = some e := hsm
    rw [hc] at hsm2; cases hsm2
  have hjl : j < d.n - 1 := by omega
  have hrc : d.pA s * (d.n - 1) + j < d.count := by omega
  refine Classical.byCases (fun hjs : ((d.pA s * (d.n - 1) + j : Nat) : Int) = (s : Int) => ?_) fun hjs => ?_
  · have hjs2 : d.pA s * (d.n - 1) + j = s := by omega
    have hps := part_succ d s j
    rw [if_pos hjs2, List.append_nil] at hps
    set_option maxRecDepth 100000 in simp (maxSteps := 10000000) only [go_sem, Nat.reduceAdd, Nat.reduceSub, Nat.reduceMul, Nat.reduceLT, Nat.reduceLeDiff, Nat.reduceEqDiff, Nat.reduceMod, Nat.reduceDiv, Int.reduceNeg, Int.reduceLE, Int.reduceLT, Int.reduceToNat, Int.reduceEq, Int.reduceNe, ↓reduceIte,  hlt, eq_true hjs, decide_true]
    refine ih (j + 1, k, e) _ ⟨by simp only; omega, he, by simp only; rw [hps]; exact hsm⟩ (by simp only; omega) ?_
    set_option maxRecDepth 100000 in simp (maxSteps := 10000000) only [go_sem, Nat.reduceAdd, Nat.reduceSub, Nat.reduceMul, Nat.reduceLT, Nat.reduceLeDiff, Nat.reduceEqDiff, Nat.reduceMod, Nat.reduceDiv, Int.reduceNeg, Int.reduceLE, Int.reduceLT, Int.reduceToNat, Int.reduceEq, Int.reduceNe, ↓reduceIte,  wrap_succ (show d.pA s * (d.n - 1) + j < 9223372036854775807 by omega), ← Nat.add_assoc]
  have hjs2 : ¬ d.pA s * (d.n - 1) + j = s := fun q => hjs (by rw [q])
  have hrd := read_good d h hrc
  unfold readT at hrd
  cases hx : d.read (d.pA s * (d.n - 1) + j) with
  | none =>
    rw [hx] at hrd
    set_option maxRecDepth 100000 in simp (maxSteps := 10000000) only [go_sem, Nat.reduceAdd, Nat.reduceSub, Nat.reduceMul, Nat.reduceLT, Nat.reduceLeDiff, Nat.reduceEqDiff, Nat.reduceMod, Nat.reduceDiv, Int.reduceNeg, Int.reduceLE, Int.reduceLT, Int.reduceToNat, Int.reduceEq, Int.reduceNe, ↓reduceIte,  hlt, eq_false hjs, decide_false]
    refine call_of (hrd) ?_
    set_option maxRecDepth 100000 in simp (maxSteps := 10000000) only [go_sem, Nat.reduceAdd, Nat.reduceSub, Nat.reduceMul, Nat.reduceLT, Nat.reduceLeDiff, Nat.reduceEqDiff, Nat.reduceMod, Nat.reduceDiv, Int.reduceNeg, Int.reduceLE, Int.reduceLT, Int.reduceToNat, Int.reduceEq, Int.reduceNe, ↓reduceIte,  Bool.not_false]
  | some y =>
    rw [hx] at hrd
    have hy := h.read16 hrc hx
    have hX := Xor_good [e, y] (by show 2 ≤ 1000000; decide) (by
      intro z hz
      simp only [List.mem_cons, List.not_mem_nil, or_false] at hz
      rcases hz with rfl | rfl
      · exact he
      · exact hy)
    rw [xorL_two] at hX
    have hps := part_succ d s j
    rw [if_neg hjs2] at hps
    set_option maxRecDepth 100000 in simp (maxSteps := 10000000) only [go_sem, Nat.reduceAdd, Nat.reduceSub, Nat.reduceMul, Nat.reduceLT, Nat.reduceLeDiff, Nat.reduceEqDiff, Nat.reduceMod, Nat.reduceDiv, Int.reduceNeg, Int.reduceLE, Int.reduceLT, Int.reduceToNat, Int.reduceEq, Int.reduceNe, ↓reduceIte,  hlt, eq_false hjs, decide_false]
    refine call_of (hrd) ?_
    set_option maxRecDepth 100000 in simp (maxSteps := 10000000) only [go_sem, Nat.reduceAdd, Nat.reduceSub, Nat.reduceMul, Nat.reduceLT, Nat.reduceLeDiff, Nat.reduceEqDiff, Nat.reduceMod, Nat.reduceDiv, Int.reduceNeg, Int.reduceLE, Int.reduceLT, Int.reduceToNat, Int.reduceEq, Int.reduceNe, ↓reduceIte,  Bool.not_true, show 2 * 1 ≤ 16777216 by decide]
    refine call_of (hX) ?_
    set_option maxRecDepth 100000 in simp (maxSteps := 10000000) only [go_sem, Nat.reduceAdd, Nat.reduceSub, Nat.reduceMul, Nat.reduceLT, Nat.reduceLeDiff, Nat.reduceEqDiff, Nat.reduceMod, Nat.reduceDiv, Int.reduceNeg, Int.reduceLE, Int.reduceLT, Int.reduceToNat, Int.reduceEq, Int.reduceNe, ↓reduceIte]
    refine ih (j + 1, k + 1, xorB e y) _ ⟨by simp only; omega, size_xorB _ _, ?_⟩ (by simp only; omega) ?_
    · simp only
      rw [hps, sumGo_append _ hsm]
      simp only [sumGo, hx]
    · set_option maxRecDepth 100000 in simp (maxSteps := 10000000) only [go_sem, Nat.reduceAdd, Nat.reduceSub, Nat.reduceMul, Nat.reduceLT, Nat.reduceLeDiff, Nat.reduceEqDiff, Nat.reduceMod, Nat.reduceDiv, Int.reduceNeg, Int.reduceLE, Int.reduceLT, Int.reduceToNat, Int.reduceEq, Int.reduceNe, ↓reduceIte,  wrap_succ (show d.pA s * (d.n - 1) + j < 9223372036854775807 by omega), ← Nat.add_assoc]
theorem writes_good (d : Disk) (h : Okd d) {s : Nat} (hs : s < d.count) (b : ByteArray) (hb : b.size = 16) : WrC d s b := by
  by_cases hk : d.kind = 2
  · unfold WrC Disk.writes Disk.dataW
    rw [if_pos hk]
    by_cases hu : (d.at (d.pU s)).state = 1
    · rw [if_pos hu]
      by_cases hp : (d.at (d.pP s)).state = 1
      · rw [if_pos hp]; exact wp_dn d h hk hs b hb hu hp
      · rw [if_neg hp]
        cases hc : d.sum s b with
        | none => exact wp_p_no d h hk hs b hb hu hp hc
        | some c => exact wp_p_ok d h hk hs b hb hu hp hc
    · rw [if_neg hu]
      by_cases hp : (d.at (d.pP s)).state = 1
      · rw [if_pos hp]; exact wp_d d h hk hs b hb hu hp
      · rw [if_neg hp]
        cases hc : d.sum s b with
        | none => exact wp_b_no d h hk hs b hb hu hp hc
        | some c => exact wp_b_ok d h hk hs b hb hu hp hc
  · rcases h.kind with q | q | q
    · have hn := h.n0 q
      obtain ⟨u, hu⟩ : ∃ u, d.units = [u] := by
        unfold Disk.n at hn
        match hd : d.units, hn with
        | [u], _ => exact ⟨u, rfl⟩
      exact writes_plain1 d h hk u hu hs b
    · have hn := h.n1 q
      obtain ⟨u, v, hu⟩ : ∃ u v, d.units = [u, v] := by
        unfold Disk.n at hn
        match hd : d.units, hn with
        | [u, v], _ => exact ⟨u, v, rfl⟩
      exact writes_plain2 d h hk u v hu hs b
    · exact absurd q hk

end Go.Proofs.Ytdfdagfgkijpcaa.C06
