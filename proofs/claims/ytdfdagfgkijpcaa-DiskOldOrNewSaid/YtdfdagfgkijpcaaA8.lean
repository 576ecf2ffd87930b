/- Chapter 6: redundant disks. -/
import Derived.Test.YtdfdagfgkijpcaaA7
namespace Go.Proofs.Ytdfdagfgkijpcaa.C06
open Go Go.Proofs Go.Proofs.Ytdfdagfgkijpcaa.Ab
set_option linter.unusedSimpArgs false
set_option linter.unusedVariables false
attribute [local congr] ite_ctx

theorem mem_nth {α : Type} [Inhabited α] {l : List α} {x : α} (h : x ∈ l) : ∃ j, j < l.length ∧ x = nth l j := by
  obtain ⟨j, hj, rfl⟩ := List.getElem_of_mem h
  exact ⟨j, hj, (nth_eq hj).symm⟩
def allS (d : Disk) (s : Nat) : List ByteArray := d.units.map fun u => nth u.secs s
theorem allS_eq (d : Disk) (s : Nat) : allS d s = (List.range d.n).map fun j => d.sec j s := by
  apply List.ext_getElem?
  intro k
  simp only [allS, List.getElem?_map]
  by_cases hk : k < d.n
  · have hk' : k < d.units.length := hk
    rw [List.getElem?_eq_getElem hk', List.getElem?_range hk]
    simp only [Option.map_some]
    rw [← sec_nth, nth_eq hk']
  · have hk' : d.units.length ≤ k := Nat.le_of_not_lt hk
    rw [List.getElem?_eq_none hk', List.getElem?_eq_none (by simp; omega)]; rfl
def badS (d : Disk) (s : Nat) : Bool := (decide (d.kind = 1) && decide (¬ d.sec 0 s = d.sec 1 s)) || (decide (d.kind = 2) && decide (¬ xorL (allS d s) = zeroB))
/-- The index and the error of a disk that must be redundant. -/
def redE (d : Disk) : Int × Int := if ¬ (dE d).2 = 0 then (0, (dE d).2) else if 0 ≤ idleIx d then (idleIx d, 26) else if 0 ≤ findIx (badS d) (List.range d.sz) 0 then (findIx (badS d) (List.range d.sz) 0, 41) else (d.size, 0)

theorem bad_none {d : Disk} (h : ¬ 0 ≤ findIx (badS d) (List.range d.sz) 0) {s : Nat} (hs : s < d.sz) : badS d s = false := by
  have := findIx_any (badS d) (List.range d.sz) 0
  rw [show decide (0 ≤ findIx (badS d) (List.range d.sz) 0) = false from decide_eq_false h] at this
  have h2 := List.any_eq_false.1 this.symm s (List.mem_range.2 hs)
  simpa using h2
theorem red_of {d : Disk} (h : (redE d).2 = 0) : Red d := by
  unfold redE at h
  split at h
  · rename_i q; exact absurd h q
  rename_i h0
  have h0' : (dE d).2 = 0 := Classical.not_not.1 h0
  have hO := okd_of h0'
  split at h
  · cases h
  rename_i hi
  split at h
  · cases h
  rename_i hb
  have hW := whole_of hO hi
  refine { hW with mir := fun hk k hk2 => ?_, par := fun hk k hk2 i hi => ?_ }
  · have := bad_none hb hk2
    simp only [badS, hk, decide_true, Bool.true_and, Bool.or_eq_false_iff, decide_eq_false_iff_not] at this
    exact Classical.not_not.1 this.1
  · have := bad_none hb hk2
    simp only [badS, hk, decide_true, Bool.true_and, Bool.or_eq_false_iff, decide_eq_false_iff_not] at this
    have h2 : xorL (allS d k) = zeroB := Classical.not_not.1 this.2
    have h3 := congrArg (fun s => bat s i) h2
    simp only [bat_xorL _ hi, bat_zeroB hi, allS_eq, List.map_map] at h3
    exact h3
theorem dE_zero {d : Disk} (h : Whole d) : (dE d).2 = 0 := by
  have h5 : d.units.length = d.n := rfl
  have hs : shE d.kind d.size d.units.length = 0 := by
    have hz := h.size
    rw [shE, if_neg, if_neg, if_neg]
    · rcases h.kind with q | q | q
      · have := h.n0 q; rw [q, h5, this]; decide
      · have := h.n1 q; rw [q, h5, this]; decide
      · have := h.n2 q; rw [q, h5]; simp [inB, lims]; omega
    · simp [inB]; omega
    · rcases h.kind with q | q | q <;> rw [q] <;> decide
  rw [dE, if_pos hs]
  have key : ∀ (l : List DU) (i : Nat), (∀ u ∈ l, uErr d.size u = 0) → (ckGo d.size l i).2 = 0 := by
    intro l
    induction l with
    | nil => intro i _; rfl
    | cons u l ih => intro i hu; rw [ckGo, if_pos (hu u (List.mem_cons_self ..))]; exact ih _ fun v hv => hu v (List.mem_cons_of_mem _ hv)
  refine key _ _ fun u hu => ?_
  obtain ⟨j, hj, rfl⟩ := mem_nth hu
  have hj' : j < d.n := hj
  show uErr d.size (d.at j) = 0
  have hst := h.state j hj'
  have hz := h.size
  refine uErr_0 (by rw [hst]; decide) (by rw [want, if_neg (by rw [hst]; decide), h.len j hj']; unfold Disk.sz; omega) fun q => ?_
  obtain ⟨s, hs1, hs2⟩ := List.any_eq_true.1 q
  obtain ⟨k, hk, rfl⟩ := mem_nth hs1
  have : (nth (d.at j).secs k).size = 16 := h.s16 j k hj' (by rw [← h.len j hj']; exact hk)
  rw [not16, this] at hs2
  exact absurd hs2 (by decide)
theorem idle_whole {d : Disk} (h : Whole d) : ¬ 0 ≤ idleIx d := fun q => by
  have := findIx_any (fun u : DU => decide (¬ u.state = 0)) d.units 0
  rw [show decide (0 ≤ findIx (fun u : DU => decide (¬ u.state = 0)) d.units 0) = true from decide_eq_true q] at this
  obtain ⟨u, hu, hs⟩ := List.any_eq_true.1 this.symm
  obtain ⟨j, hj, rfl⟩ := mem_nth hu
  have hj' : j < d.n := hj
  exact of_decide_eq_true hs (h.state j hj')
theorem redE_zero {d : Disk} (h : Red d) : (redE d).2 = 0 := by
  have h0 := dE_zero h.toWhole
  have hi := idle_whole h.toWhole
  rw [redE, if_neg (by rw [h0]; exact fun q => q rfl), if_neg hi, if_neg]
  intro q
  have := findIx_any (badS d) (List.range d.sz) 0
  rw [show decide (0 ≤ findIx (badS d) (List.range d.sz) 0) = true from decide_eq_true q] at this
  obtain ⟨s, hs, hb⟩ := List.any_eq_true.1 this.symm
  have hs' := List.mem_range.1 hs
  have e1 : (decide (d.kind = 1) && decide (¬ d.sec 0 s = d.sec 1 s)) = false := by
    by_cases hk : d.kind = 1
    · simp [hk, h.mir hk s hs']
    · simp [hk]
  have e2 : (decide (d.kind = 2) && decide (¬ xorL (allS d s) = zeroB)) = false := by
    by_cases hk : d.kind = 2
    · have : xorL (allS d s) = zeroB := ext16 (size_xorL _) size_zeroB fun i hi => by
        rw [bat_xorL _ hi, bat_zeroB hi, allS_eq, List.map_map]
        exact h.par hk s hs' i hi
      simp [hk, this]
    · simp [hk]
  rw [badS, e1, e2] at hb
  cases hb

theorem range_nth {n s : Nat} (h : s < n) : nth (List.range n) s = s := by rw [nth_eq (by simpa using h)]; simp
theorem bad_step {d : Disk} {s : Nat} {r : Int} (hs : s < d.sz) (h : r = findIx (badS d) ((List.range d.sz).drop s) s) (hb : badS d s = false) : r = findIx (badS d) ((List.range d.sz).drop (s + 1)) (s + 1) := by
  rw [h, drop_nth (by simpa using hs), findIx, if_neg (by rw [range_nth hs, hb]; decide)]
theorem bad_hit {d : Disk} {s : Nat} {r : Int} (hs : s < d.sz) (h : r = findIx (badS d) ((List.range d.sz).drop s) s) (hb : badS d s = true) : r = s := by
  rw [h, drop_nth (by simpa using hs), findIx, if_pos (by rw [range_nth hs, hb])]

theorem hadd (x y : Nat) : x + (y + 1) = x + y + 1 := rfl
set_option maxHeartbeats 8000000 in
theorem CheckRedundant_good (d : Disk) (hf : FitD d) : Ans Try.prog 47 [.agg (encDisk d)] (.tup [.int .i64 (redE d).1, .int .i64 (redE d).2]) := by
  have hR : redE d = if ¬ (dE d).2 = 0 then (0, (dE d).2) else if 0 ≤ idleIx d then (idleIx d, 26) else if 0 ≤ findIx (badS d) (List.range d.sz) 0 then (findIx (badS d) (List.range d.sz) 0, 41) else (d.size, 0) := rfl
  refine Classical.byCases (fun h0 : (dE d).2 = 0 => ?_) fun h0 => ?_
  case refine_2 =>
    rw [if_pos h0] at hR
    rw [hR]
    refine good_run [(12, [9, 29, 30, 31, 32, 33, 34, 35, 36, 37, 38, 39, 40], [9, 38, 1701009039]), (8, [2, 3, 6, 7, 9, 23, 24, 25, 26, 27, 28, 29, 30, 31, 32, 33, 34, 35, 36, 37, 38, 39, 40, 41, 42, 43, 44, 45, 46, 47, 48, 49, 50, 51, 52, 53, 54, 55, 56, 57, 58, 59, 60, 61, 62, 63, 64, 65], [9, 38, 39, 9, 38, 39])] mixed Try.func47 rfl Try.ntmps47 (rs := [.tmp 2, .tmp 3]) rfl (by decide +kernel) (by kernel_rfl) rfl ?_
    rw [startE_eq 68 _ _ _ rfl rfl]
    set_option maxRecDepth 100000 in simp (maxSteps := 10000000) only [go_sem, Nat.reduceAdd, Nat.reduceSub, Nat.reduceMul, Nat.reduceLT, Nat.reduceLeDiff, Nat.reduceEqDiff, Nat.reduceMod, Nat.reduceDiv, Int.reduceNeg, Int.reduceLE, Int.reduceLT, Int.reduceToNat, Int.reduceEq, Int.reduceNe, ↓reduceIte]
    refine call_of (diskErr_good d hf) ?_
    set_option maxRecDepth 100000 in simp (maxSteps := 10000000) only [go_sem, Nat.reduceAdd, Nat.reduceSub, Nat.reduceMul, Nat.reduceLT, Nat.reduceLeDiff, Nat.reduceEqDiff, Nat.reduceMod, Nat.reduceDiv, Int.reduceNeg, Int.reduceLE, Int.reduceLT, Int.reduceToNat, Int.reduceEq, Int.reduceNe, ↓reduceIte,  h0]
  have hde := diskErr_good d hf
  rw [if_neg (by rw [h0]; exact fun q => q rfl)] at hR
  rw [h0] at hde
  refine Classical.byCases (fun hi : 0 ≤ idleIx d => ?_) fun hi => ?_
  · rw [if_pos hi] at hR
    rw [hR]
    refine good_run [(12, [9, 29, 30, 31, 32, 33, 34, 35, 36, 37, 38, 39, 40], [9, 38, 1701009039]), (8, [2, 3, 6, 7, 9, 23, 24, 25, 26, 27, 28, 29, 30, 31, 32, 33, 34, 35, 36, 37, 38, 39, 40, 41, 42, 43, 44, 45, 46, 47, 48, 49, 50, 51, 52, 53, 54, 55, 56, 57, 58, 59, 60, 61, 62, 63, 64, 65], [9, 38, 39, 9, 38, 39])] mixed Try.func47 rfl Try.ntmps47 (rs := [.tmp 2, .tmp 3]) rfl (by decide +kernel) (by kernel_rfl) rfl ?_
    rw [startE_eq 68 _ _ _ rfl rfl]
    set_option maxRecDepth 100000 in simp (maxSteps := 10000000) only [go_sem, Nat.reduceAdd, Nat.reduceSub, Nat.reduceMul, Nat.reduceLT, Nat.reduceLeDiff, Nat.reduceEqDiff, Nat.reduceMod, Nat.reduceDiv, Int.reduceNeg, Int.reduceLE, Int.reduceLT, Int.reduceToNat, Int.reduceEq, Int.reduceNe, ↓reduceIte]
    refine call_of (hde) ?_
    set_option maxRecDepth 100000 in simp (maxSteps := 10000000) only [go_sem, Nat.reduceAdd, Nat.reduceSub, Nat.reduceMul, Nat.reduceLT, Nat.reduceLeDiff, Nat.reduceEqDiff, Nat.reduceMod, Nat.reduceDiv, Int.reduceNeg, Int.reduceLE, Int.reduceLT, Int.reduceToNat, Int.reduceEq, Int.reduceNe, ↓reduceIte]
    refine call_of (inactive_good d hf) ?_
    set_option maxRecDepth 100000 in simp (maxSteps := 10000000) only [go_sem, Nat.reduceAdd, Nat.reduceSub, Nat.reduceMul, Nat.reduceLT, Nat.reduceLeDiff, Nat.reduceEqDiff, Nat.reduceMod, Nat.reduceDiv, Int.reduceNeg, Int.reduceLE, Int.reduceLT, Int.reduceToNat, Int.reduceEq, Int.reduceNe, ↓reduceIte,  hi]
  rw [if_neg hi] at hR
  have hO := okd_of h0
  have hW := whole_of hO hi
  have h5 := hO.n5
  have hsz := hO.sz10
  have hlu : d.units.length = d.n := rfl
  generalize hfi : findIx (badS d) (List.range d.sz) 0 = fi at hR
  generalize hrr : redE d = r at hR ⊢
  refine good_run [(12, [9, 29, 30, 31, 32, 33, 34, 35, 36, 37, 38, 39, 40], [9, 38, 1701009039]), (8, [2, 3, 6, 7, 9, 23, 24, 25, 26, 27, 28, 29, 30, 31, 32, 33, 34, 35, 36, 37, 38, 39, 40, 41, 42, 43, 44, 45, 46, 47, 48, 49, 50, 51, 52, 53, 54, 55, 56, 57, 58, 59, 60, 61, 62, 63, 64, 65], [9, 38, 39, 9, 38, 39])] mixed Try.func47 rfl Try.ntmps47 (rs := [.tmp 2, .tmp 3]) rfl (by decide +kernel) (by kernel_rfl) rfl ?_
  rw [startE_eq 68 _ _ _ rfl rfl]
  set_option maxRecDepth 100000 in simp (maxSteps := 10000000) only [go_sem, Nat.reduceAdd, Nat.reduceSub, Nat.reduceMul, Nat.reduceLT, Nat.reduceLeDiff, Nat.reduceEqDiff, Nat.reduceMod, Nat.reduceDiv, Int.reduceNeg, Int.reduceLE, Int.reduceLT, Int.reduceToNat, Int.reduceEq, Int.reduceNe, ↓reduceIte]
  refine call_of (hde) ?_
  set_option maxRecDepth 100000 in simp (maxSteps := 10000000) only [go_sem, Nat.reduceAdd, Nat.reduceSub, Nat.reduceMul, Nat.reduceLT, Nat.reduceLeDiff, Nat.reduceEqDiff, Nat.reduceMod, Nat.reduceDiv, Int.reduceNeg, Int.reduceLE, Int.reduceLT, Int.reduceToNat, Int.reduceEq, Int.reduceNe, ↓reduceIte]
  refine call_of (inactive_good d hf) ?_
  set_option maxRecDepth 100000 in simp (maxSteps := 10000000) only [go_sem, Nat.reduceAdd, Nat.reduceSub, Nat.reduceMul, Nat.reduceLT, Nat.reduceLeDiff, Nat.reduceEqDiff, Nat.reduceMod, Nat.reduceDiv, Int.reduceNeg, Int.reduceLE, Int.reduceLT, Int.reduceToNat, Int.reduceEq, Int.reduceNe, ↓reduceIte,  hi]
  refine loop_by ([2, 3, 6, 7, 9, 23, 24, 25, 26, 27, 28, 29, 30, 31, 32, 33, 34, 35, 36, 37, 38, 39, 40, 41, 42, 43, 44, 45, 46, 47, 48, 49, 50, 51, 52, 53, 54, 55, 56, 57, 58, 59, 60, 61, 62, 63, 64, 65], [9, 38, 39, 9, 38, 39]) (fun x : Nat × Nat × Nat × Nat => [(.s 22, .int .i64 (x.1 : Int)), (.o 9, deadV x.2.1), (.o 38, deadV x.2.2.1), (.o 39, deadV x.2.2.2)]) (fun x => d.sz - x.1) (fun x => x.1 ≤ d.sz ∧ fi = findIx (badS d) ((List.range d.sz).drop x.1) x.1) (0, 0, 0, 0) rfl ⟨Nat.zero_le _, hfi.symm⟩ rfl ?_
  rintro c' st' hst ⟨s, a, b, c⟩ ⟨hs, hfi2⟩ ih
  simp only at hs hfi2 ih ⊢
  set_option maxRecDepth 100000 in simp (maxSteps := 10000000) only [go_sem, Nat.reduceAdd, Nat.reduceSub, Nat.reduceMul, Nat.reduceLT, Nat.reduceLeDiff, Nat.reduceEqDiff, Nat.reduceMod, Nat.reduceDiv, Int.reduceNeg, Int.reduceLE, Int.reduceLT, Int.reduceToNat, Int.reduceEq, Int.reduceNe, ↓reduceIte]
  refine ifI (fun hlt => ?_) fun hlt => ?_
  case refine_2 =>
    subst hst
    set_option maxRecDepth 100000 in simp (maxSteps := 10000000) only [go_sem, Nat.reduceAdd, Nat.reduceSub, Nat.reduceMul, Nat.reduceLT, Nat.reduceLeDiff, Nat.reduceEqDiff, Nat.reduceMod, Nat.reduceDiv, Int.reduceNeg, Int.reduceLE, Int.reduceLT, Int.reduceToNat, Int.reduceEq, Int.reduceNe, ↓reduceIte,  hlt]
    have : fi = -1 := by rw [hfi2, List.drop_eq_nil_of_le (by simp; omega)]; rfl
    rw [hR, if_neg (by omega)]
    exact ⟨rfl, rfl⟩
  have hs' : s < d.sz := by omega
  set_option maxRecDepth 100000 in simp (maxSteps := 10000000) only [go_sem, Nat.reduceAdd, Nat.reduceSub, Nat.reduceMul, Nat.reduceLT, Nat.reduceLeDiff, Nat.reduceEqDiff, Nat.reduceMod, Nat.reduceDiv, Int.reduceNeg, Int.reduceLE, Int.reduceLT, Int.reduceToNat, Int.reduceEq, Int.reduceNe, ↓reduceIte,  hlt]
  have ihh := show id _ from ih
  clear ih
  have hstt := show id _ from hst
  clear hst
  refine loop_by ([9, 29, 30, 31, 32, 33, 34, 35, 36, 37, 38, 39, 40], [9, 38, 1701009039]) (fun k : Nat => [(.s 28, .int .i64 (k : Int)), (.o 9, deadV (a + k)), (.o 38, deadV (b + k)), (.o 39, .obj (c + k + 1) 9 1 false true ((allS { d with units := d.units.take k } s).map encStr)), (.s 7, .ref 39 (c + k + 1))]) (fun k => d.n - k) (fun k => k ≤ d.n) 0 rfl (Nat.zero_le _) ?_ ?_
  · set_option maxRecDepth 100000 in simp (maxSteps := 10000000) only [go_sem, Nat.reduceAdd, Nat.reduceSub, Nat.reduceMul, Nat.reduceLT, Nat.reduceLeDiff, Nat.reduceEqDiff, Nat.reduceMod, Nat.reduceDiv, Int.reduceNeg, Int.reduceLE, Int.reduceLT, Int.reduceToNat, Int.reduceEq, Int.reduceNe, ↓reduceIte]
    exact ⟨rfl, rfl, rfl⟩
  rintro c2 st2 hst2 k hk ih2
  set_option maxRecDepth 100000 in simp (maxSteps := 10000000) only [go_sem, Nat.reduceAdd, Nat.reduceSub, Nat.reduceMul, Nat.reduceLT, Nat.reduceLeDiff, Nat.reduceEqDiff, Nat.reduceMod, Nat.reduceDiv, Int.reduceNeg, Int.reduceLE, Int.reduceLT, Int.reduceToNat, Int.reduceEq, Int.reduceNe, ↓reduceIte]
  refine ifI (fun hkl => ?_) fun hkl => ?_
  · have hk' : k < d.n := by omega
    have hku : k < d.units.length := hk'
    obtain ⟨a1, a2⟩ := hO.active hk' (idle_none hi k hk') hs'
    have hal : (allS { d with units := d.units.take k } s).length = k := by simp [allS]; omega
    have hro : List.map encStr (allS { d with units := d.units.take (k + 1) } s) = List.map encStr (allS { d with units := d.units.take k } s) ++ [[.str (d.sec k s)]] := by
      simp only [allS]
      rw [← take_snoc hku, List.map_append, List.map_append]; rfl
    set_option maxRecDepth 100000 in simp (maxSteps := 10000000) only [go_sem, Nat.reduceAdd, Nat.reduceSub, Nat.reduceMul, Nat.reduceLT, Nat.reduceLeDiff, Nat.reduceEqDiff, Nat.reduceMod, Nat.reduceDiv, Int.reduceNeg, Int.reduceLE, Int.reduceLT, Int.reduceToNat, Int.reduceEq, Int.reduceNe, ↓reduceIte,  hkl, hku, show s < (nth d.units k).secs.length from a1, sec_nth, hal, show (k + 1) * 16 ≤ 140737488355328 by omega, show k + 1 ≤ maxLen by unfold maxLen; omega]
    refine ih2 (k + 1) _ (by omega) (by omega) ?_
    set_option maxRecDepth 100000 in simp (maxSteps := 10000000) only [go_sem, Nat.reduceAdd, Nat.reduceSub, Nat.reduceMul, Nat.reduceLT, Nat.reduceLeDiff, Nat.reduceEqDiff, Nat.reduceMod, Nat.reduceDiv, Int.reduceNeg, Int.reduceLE, Int.reduceLT, Int.reduceToNat, Int.reduceEq, Int.reduceNe, ↓reduceIte,  wrap_succ (show k < 9223372036854775807 by omega), hro, ← Nat.add_assoc]
  have hkn : k = d.n := by omega
  have htk : { d with units := d.units.take k } = d := by rw [hkn, ← hlu, List.take_length]
  subst hst2
  set_option maxRecDepth 100000 in simp (maxSteps := 10000000) only [go_sem, Nat.reduceAdd, Nat.reduceSub, Nat.reduceMul, Nat.reduceLT, Nat.reduceLeDiff, Nat.reduceEqDiff, Nat.reduceMod, Nat.reduceDiv, Int.reduceNeg, Int.reduceLE, Int.reduceLT, Int.reduceToNat, Int.reduceEq, Int.reduceNe, ↓reduceIte,  hkl, htk]
  have hall16 : ∀ x ∈ allS d s, x.size = 16 := fun x hx => by
    rw [allS_eq] at hx
    obtain ⟨j, hj, rfl⟩ := List.mem_map.1 hx
    exact hW.s16 j s (List.mem_range.1 hj) hs'
  have hX := Xor_good (allS d s) (by rw [allS_eq]; simp; omega) hall16
  have hgo : badS d s = false → ∀ (a' b' c' : Nat), fi = findIx (badS d) ((List.range d.sz).drop (s + 1)) (s + 1) := fun hb _ _ _ => bad_step hs' hfi2 hb
  have hhit : badS d s = true → fi = (s : Int) := bad_hit hs' hfi2
  rcases hO.kind with hkd | hkd | hkd
  · have k1 : (d.kind = 1) = False := eq_false (by omega)
    have k2 : (d.kind = 2) = False := eq_false (by omega)
    have hb : badS d s = false := by simp [badS, hkd]
    set_option maxRecDepth 100000 in simp (maxSteps := 10000000) only [go_sem, Nat.reduceAdd, Nat.reduceSub, Nat.reduceMul, Nat.reduceLT, Nat.reduceLeDiff, Nat.reduceEqDiff, Nat.reduceMod, Nat.reduceDiv, Int.reduceNeg, Int.reduceLE, Int.reduceLT, Int.reduceToNat, Int.reduceEq, Int.reduceNe, ↓reduceIte,  k1, k2, decide_false]
    refine ⟨by decide +kernel, ?_⟩
    refine ihh (s + 1, a + k, b + k, c + k + 1) _ ⟨by simp only; omega, bad_step hs' hfi2 hb⟩ (by simp only; omega) ?_
    set_option maxRecDepth 100000 in simp (maxSteps := 10000000) only [go_sem, Nat.reduceAdd, Nat.reduceSub, Nat.reduceMul, Nat.reduceLT, Nat.reduceLeDiff, Nat.reduceEqDiff, Nat.reduceMod, Nat.reduceDiv, Int.reduceNeg, Int.reduceLE, Int.reduceLT, Int.reduceToNat, Int.reduceEq, Int.reduceNe, ↓reduceIte,  wrap_succ (show s < 9223372036854775807 by omega)]
  · have k1 : (d.kind = 1) = True := eq_true hkd
    have k2 : (d.kind = 2) = False := eq_false (by omega)
    have hn2 := hO.n1 hkd
    have e0 : (0 : Nat) < (allS d s).length := by rw [allS_eq]; simp; omega
    have e1 : (1 : Nat) < (allS d s).length := by rw [allS_eq]; simp; omega
    have e0i : (0 : Int) < ((allS d s).length : Int) := by omega
    have e1i : (1 : Int) < ((allS d s).length : Int) := by omega
    have q0 : (List.map encStr (allS d s))[0]? = some [.str (d.sec 0 s)] := by rw [List.getElem?_map, allS_eq, List.getElem?_map, List.getElem?_range (by omega)]; rfl
    have q1 : (List.map encStr (allS d s))[1]? = some [.str (d.sec 1 s)] := by rw [List.getElem?_map, allS_eq, List.getElem?_map, List.getElem?_range (by omega)]; rfl
    refine Classical.byCases (fun hb : d.sec 0 s = d.sec 1 s => ?_) fun hb => ?_
    · have hbb : badS d s = false := by simp [badS, hkd, hb]
      set_option maxRecDepth 100000 in simp (maxSteps := 10000000) only [go_sem, Nat.reduceAdd, Nat.reduceSub, Nat.reduceMul, Nat.reduceLT, Nat.reduceLeDiff, Nat.reduceEqDiff, Nat.reduceMod, Nat.reduceDiv, Int.reduceNeg, Int.reduceLE, Int.reduceLT, Int.reduceToNat, Int.reduceEq, Int.reduceNe, ↓reduceIte,  k1, k2, decide_false, decide_true, e0, e1, e0i, e1i, q0, q1, Option.map_some, List.drop_zero, hb, not_true_eq_false]
      refine ⟨by decide +kernel, ?_⟩
      refine ihh (s + 1, a + k, b + k, c + k + 1) _ ⟨by simp only; omega, bad_step hs' hfi2 hbb⟩ (by simp only; omega) ?_
      set_option maxRecDepth 100000 in simp (maxSteps := 10000000) only [go_sem, Nat.reduceAdd, Nat.reduceSub, Nat.reduceMul, Nat.reduceLT, Nat.reduceLeDiff, Nat.reduceEqDiff, Nat.reduceMod, Nat.reduceDiv, Int.reduceNeg, Int.reduceLE, Int.reduceLT, Int.reduceToNat, Int.reduceEq, Int.reduceNe, ↓reduceIte,  wrap_succ (show s < 9223372036854775807 by omega)]
    · have hbb : badS d s = true := by simp [badS, hkd, hb]
      set_option maxRecDepth 100000 in simp (maxSteps := 10000000) only [go_sem, Nat.reduceAdd, Nat.reduceSub, Nat.reduceMul, Nat.reduceLT, Nat.reduceLeDiff, Nat.reduceEqDiff, Nat.reduceMod, Nat.reduceDiv, Int.reduceNeg, Int.reduceLE, Int.reduceLT, Int.reduceToNat, Int.reduceEq, Int.reduceNe, ↓reduceIte,  k1, k2, decide_false, decide_true, e0, e1, e0i, e1i, q0, q1, Option.map_some, List.drop_zero, hb, not_false_eq_true]
      refine ⟨by decide +kernel, ?_⟩
      rw [hR, if_pos (by rw [hhit hbb]; omega), hhit hbb]
      exact ⟨rfl, rfl⟩
  · have k1 : (d.kind = 1) = False := eq_false (by omega)
    have k2 : (d.kind = 2) = True := eq_true hkd
    set_option maxRecDepth 100000 in simp (maxSteps := 10000000) only [go_sem, Nat.reduceAdd, Nat.reduceSub, Nat.reduceMul, Nat.reduceLT, Nat.reduceLeDiff, Nat.reduceEqDiff, Nat.reduceMod, Nat.reduceDiv, Int.reduceNeg, Int.reduceLE, Int.reduceLT, Int.reduceToNat, Int.reduceEq, Int.reduceNe, ↓reduceIte,  k1, k2, decide_false, decide_true]
    refine callD_of (hX) ?_
    set_option maxRecDepth 100000 in simp (maxSteps := 10000000) only [go_sem, Nat.reduceAdd, Nat.reduceSub, Nat.reduceMul, Nat.reduceLT, Nat.reduceLeDiff, Nat.reduceEqDiff, Nat.reduceMod, Nat.reduceDiv, Int.reduceNeg, Int.reduceLE, Int.reduceLT, Int.reduceToNat, Int.reduceEq, Int.reduceNe, ↓reduceIte]
    refine callD_of (blank_good) ?_
    set_option maxRecDepth 100000 in simp (maxSteps := 10000000) only [go_sem, Nat.reduceAdd, Nat.reduceSub, Nat.reduceMul, Nat.reduceLT, Nat.reduceLeDiff, Nat.reduceEqDiff, Nat.reduceMod, Nat.reduceDiv, Int.reduceNeg, Int.reduceLE, Int.reduceLT, Int.reduceToNat, Int.reduceEq, Int.reduceNe, ↓reduceIte]
    refine ⟨by decide +kernel, ?_⟩
    refine ifI (fun hb => ?_) fun hb => ?_
    · have hbb : badS d s = true := by simp [badS, hkd, hb]
      set_option maxRecDepth 100000 in simp (maxSteps := 10000000) only [go_sem, Nat.reduceAdd, Nat.reduceSub, Nat.reduceMul, Nat.reduceLT, Nat.reduceLeDiff, Nat.reduceEqDiff, Nat.reduceMod, Nat.reduceDiv, Int.reduceNeg, Int.reduceLE, Int.reduceLT, Int.reduceToNat, Int.reduceEq, Int.reduceNe, ↓reduceIte,  hb]
      rw [hR, if_pos (by rw [hhit hbb]; omega), hhit hbb]
      exact ⟨rfl, rfl⟩
    · have hbb : badS d s = false := by simp [badS, hkd, Classical.not_not.1 hb]
      set_option maxRecDepth 100000 in simp (maxSteps := 10000000) only [go_sem, Nat.reduceAdd, Nat.reduceSub, Nat.reduceMul, Nat.reduceLT, Nat.reduceLeDiff, Nat.reduceEqDiff, Nat.reduceMod, Nat.reduceDiv, Int.reduceNeg, Int.reduceLE, Int.reduceLT, Int.reduceToNat, Int.reduceEq, Int.reduceNe, ↓reduceIte,  hb]
      refine ihh (s + 1, a + k, b + k, c + k + 1) _ ⟨by simp only; omega, bad_step hs' hfi2 hbb⟩ (by simp only; omega) ?_
      set_option maxRecDepth 100000 in simp (maxSteps := 10000000) only [go_sem, Nat.reduceAdd, Nat.reduceSub, Nat.reduceMul, Nat.reduceLT, Nat.reduceLeDiff, Nat.reduceEqDiff, Nat.reduceMod, Nat.reduceDiv, Int.reduceNeg, Int.reduceLE, Int.reduceLT, Int.reduceToNat, Int.reduceEq, Int.reduceNe, ↓reduceIte,  wrap_succ (show s < 9223372036854775807 by omega)]

end Go.Proofs.Ytdfdagfgkijpcaa.C06
