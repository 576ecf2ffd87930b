/- Chapter 6: reading. -/
import Derived.Test.YtdfdagfgkijpcaaA5
namespace Go.Proofs.Ytdfdagfgkijpcaa.C06
open Go Go.Proofs Go.Proofs.Ytdfdagfgkijpcaa.Ab
set_option linter.unusedSimpArgs false
set_option linter.unusedVariables false
attribute [local congr] ite_ctx

/-- A disk without an error. -/
structure Okd (d : Disk) : Prop where
  kind : d.kind = 0 ∨ d.kind = 1 ∨ d.kind = 2
  n0 : d.kind = 0 → d.n = 1
  n1 : d.kind = 1 → d.n = 2
  n2 : d.kind = 2 → 3 ≤ d.n ∧ d.n ≤ 5
  size : 1 ≤ d.size ∧ d.size ≤ 10
  state : ∀ j, j < d.n → (d.at j).state = 0 ∨ (d.at j).state = 1 ∨ (d.at j).state = 2
  len : ∀ j, j < d.n → (d.at j).state ≠ 1 → (d.at j).secs.length = d.sz
  gone : ∀ j, j < d.n → (d.at j).state = 1 → (d.at j).secs = []
  s16 : ∀ j s, j < d.n → s ∈ (d.at j).secs → s.size = 16
theorem ck_zero {size : Int} : ∀ {l : List DU} {i : Nat}, (ckGo size l i).2 = 0 → ∀ u ∈ l, uErr size u = 0
  | [], _, _, u, hu => by cases hu
  | v :: l, i, h, u, hu => by
    unfold ckGo at h
    split at h
    · rename_i h0
      rcases List.mem_cons.1 hu with rfl | hu
      · exact h0
      · exact ck_zero h u hu
    · rename_i h0; exact absurd h h0
theorem uErr_zero {size : Int} {u : DU} (h : uErr size u = 0) : inB u.state 0 2 = true ∧ (u.secs.length : Int) = want size u ∧ ∀ s ∈ u.secs, s.size = 16 := by
  unfold uErr at h
  split at h
  · cases h
  split at h
  · cases h
  split at h
  · cases h
  rename_i h1 h2 h3
  refine ⟨by simpa using h1, Classical.not_not.1 h2, fun s hs => ?_⟩
  apply Classical.byContradiction
  intro q
  exact h3 (List.any_eq_true.2 ⟨s, hs, decide_eq_true (by omega)⟩)
theorem at_nth (d : Disk) (j : Nat) : d.at j = nth d.units j := rfl
theorem okd_of {d : Disk} (h : (dE d).2 = 0) : Okd d := by
  have hk : shE d.kind d.size d.units.length = 0 := by
    rw [dE] at h; split at h
    · assumption
    · rename_i q; exact absurd h q
  have hc : (ckGo d.size d.units 0).2 = 0 := by rw [dE, if_pos hk] at h; exact h
  obtain ⟨k1, k2, k3⟩ := shE_kind hk
  have hu : ∀ j, j < d.n → uErr d.size (d.at j) = 0 := fun j hj => ck_zero hc _ (nth_mem hj)
  have hk3 : d.kind = 0 ∨ d.kind = 1 ∨ d.kind = 2 := by simp only [inB, decide_eq_true_eq] at k1; omega
  have hsz : 1 ≤ d.size ∧ d.size ≤ 10 := by simpa [inB] using k2
  exact {
    kind := hk3
    n0 := fun q => by rw [q] at k3; simp [inB, lims] at k3; unfold Disk.n; omega
    n1 := fun q => by rw [q] at k3; simp [inB, lims] at k3; unfold Disk.n; omega
    n2 := fun q => by rw [q] at k3; simp [inB, lims] at k3; unfold Disk.n; omega
    size := hsz
    state := fun j hj => by have := (uErr_zero (hu j hj)).1; simp only [inB, decide_eq_true_eq] at this; omega
    len := fun j hj q => by have := (uErr_zero (hu j hj)).2.1; rw [want, if_neg q] at this; unfold Disk.sz; omega
    gone := fun j hj q => by have := (uErr_zero (hu j hj)).2.1; rw [want, if_pos q] at this; exact List.eq_nil_of_length_eq_zero (by omega)
    s16 := fun j s hj hs => (uErr_zero (hu j hj)).2.2 s hs }
theorem Okd.n5 {d : Disk} (h : Okd d) : 1 ≤ d.n ∧ d.n ≤ 5 := by
  rcases h.kind with q | q | q
  · have := h.n0 q; omega
  · have := h.n1 q; omega
  · have := h.n2 q; omega
theorem Okd.sz10 {d : Disk} (h : Okd d) : 1 ≤ d.sz ∧ d.sz ≤ 10 ∧ (d.sz : Int) = d.size := by have := h.size; unfold Disk.sz; omega
theorem Okd.cnt {d : Disk} (h : Okd d) : cntI d = (d.count : Nat) ∧ d.count ≤ 40 := by
  have h1 := h.sz10
  have h5 := h.n5
  have hl : (d.units.length : Int) - 1 = ((d.n - 1 : Nat) : Int) := by unfold Disk.n at *; omega
  unfold cntI Disk.count
  split
  · rw [hl, ← h1.2.2]
    refine ⟨by rw [Int.natCast_mul], ?_⟩
    exact Nat.le_trans (Nat.mul_le_mul h1.2.1 (show d.n - 1 ≤ 4 by omega)) (by decide)
  · exact ⟨h1.2.2.symm, by omega⟩
theorem Okd.pA_lt {d : Disk} (h : Okd d) {s : Nat} (hs : s < d.count) : d.pA s < d.sz := by
  unfold Disk.pA
  unfold Disk.count at hs
  split
  · rename_i hk
    rw [if_pos hk] at hs
    exact Nat.div_lt_of_lt_mul (by rw [Nat.mul_comm]; exact hs)
  · rename_i hk
    rwa [if_neg hk] at hs
theorem Okd.pU_lt {d : Disk} (h : Okd d) (s : Nat) : d.pU s < d.n := by
  have h5 := h.n5
  unfold Disk.pU
  split
  · rename_i hk
    have := h.n2 hk
    have h2 : s % (d.n - 1) < d.n - 1 := Nat.mod_lt _ (by omega)
    unfold plU; split <;> omega
  · omega
theorem Okd.pP_lt {d : Disk} (h : Okd d) (s : Nat) : d.pP s < d.n := Nat.mod_lt _ (by have := h.n5; omega)
theorem sec_nth (d : Disk) (j k : Nat) : nth (nth d.units j).secs k = d.sec j k := rfl
theorem Okd.active {d : Disk} (h : Okd d) {j : Nat} (hj : j < d.n) (h0 : (d.at j).state = 0) {k : Nat} (hk : k < d.sz) : k < (d.at j).secs.length ∧ (d.sec j k).size = 16 := by
  have hl := h.len j hj (by omega)
  refine ⟨by omega, h.s16 j _ hj ?_⟩
  exact nth_mem (l := (d.at j).secs) (by omega)

/-! ### What the others give -/
theorem filter_succ (but i : Nat) : (List.range (i + 1)).filter (fun j => !decide (j = but)) = (List.range i).filter (fun j => !decide (j = but)) ++ if i = but then [] else [i] := by
  rw [List.range_succ, List.filter_append]
  by_cases h : i = but <;> simp [h]
theorem xorL_snoc (l : List ByteArray) (x : ByteArray) : xorL (l ++ [x]) = xorB (xorL l) x := by
  rw [← foldl_xorB, List.foldl_append, foldl_xorB]; rfl
def othT (d : Disk) (but k : Nat) : AV := match d.others but k with
  | some s => .tup [.str s, .bool true]
  | none => .tup [.str ⟨#[]⟩, .bool false]
def othX (d : Disk) (but k i : Nat) : ByteArray := xorL (((List.range i).filter (fun j => !decide (j = but))).map fun j => d.sec j k)
theorem othX_skip (d : Disk) {but i : Nat} (k : Nat) (h : i = but) : othX d but k (i + 1) = othX d but k i := by
  unfold othX; rw [filter_succ, if_pos h, List.append_nil]
theorem othX_step (d : Disk) {but i : Nat} (k : Nat) (h : ¬ i = but) : othX d but k (i + 1) = xorB (othX d but k i) (d.sec i k) := by
  unfold othX; rw [filter_succ, if_neg h, List.map_append, List.map_cons, List.map_nil, xorL_snoc]
set_option maxHeartbeats 4000000 in
theorem others_good (d : Disk) (h : Okd d) (but k : Nat) (hk : k < d.sz) : Ans Try.prog 52 [.agg (encDisk d), .int .i64 (but : Int), .int .i64 (k : Int)] (othT d but k) := by
  have h5 := h.n5
  have hn : d.units.length = d.n := rfl
  have hfl : (othT d but k).pureR = true := by unfold othT; split <;> rfl
  generalize hr : othT d but k = r at hfl
  refine good_run [(3, [6, 7, 9, 10, 16, 17, 18, 19, 20, 21, 22, 23, 24, 25, 26, 27, 28, 29, 30, 31, 32, 33, 34], [10, 32])] mixed Try.func52 rfl Try.ntmps52 (rs := [.tmp 6, .tmp 7]) rfl (by decide +kernel) (by kernel_rfl) (hfl) ?_
  rw [startE_eq 36 _ _ _ rfl rfl]
  set_option maxRecDepth 100000 in simp (maxSteps := 10000000) only [go_sem, Nat.reduceAdd, Nat.reduceSub, Nat.reduceMul, Nat.reduceLT, Nat.reduceLeDiff, Nat.reduceEqDiff, Nat.reduceMod, Nat.reduceDiv, Int.reduceNeg, Int.reduceLE, Int.reduceLT, Int.reduceToNat, Int.reduceEq, Int.reduceNe, ↓reduceIte]
  refine call_of (blank_good) ?_
  set_option maxRecDepth 100000 in simp (maxSteps := 10000000) only [go_sem, Nat.reduceAdd, Nat.reduceSub, Nat.reduceMul, Nat.reduceLT, Nat.reduceLeDiff, Nat.reduceEqDiff, Nat.reduceMod, Nat.reduceDiv, Int.reduceNeg, Int.reduceLE, Int.reduceLT, Int.reduceToNat, Int.reduceEq, Int.reduceNe, ↓reduceIte]
  refine loop_by ([6, 7, 9, 10, 16, 17, 18, 19, 20, 21, 22, 23, 24, 25, 26, 27, 28, 29, 30, 31, 32, 33, 34], [10, 32]) (fun x : Nat × Nat => [(.s 15, .int .i64 (x.1 : Int)), (.o 10, deadV x.1), (.o 32, deadV x.2), (.s 8, .str (othX d but k x.1))]) (fun x => d.n - x.1)
    (fun x => x.1 ≤ d.n ∧ ∀ j, j < x.1 → j ≠ but → (d.at j).state = 0) (0, 0) rfl ⟨Nat.zero_le _, fun j hj => absurd hj (Nat.not_lt_zero _)⟩ rfl ?_
  rintro c' st' hst ⟨i, c⟩ ⟨hi, hp⟩ ih
  simp only at hi hp ih ⊢
  set_option maxRecDepth 100000 in simp (maxSteps := 10000000) only [go_sem, Nat.reduceAdd, Nat.reduceSub, Nat.reduceMul, Nat.reduceLT, Nat.reduceLeDiff, Nat.reduceEqDiff, Nat.reduceMod, Nat.reduceDiv, Int.reduceNeg, Int.reduceLE, Int.reduceLT, Int.reduceToNat, Int.reduceEq, Int.reduceNe, ↓reduceIte]
  refine ifI (fun hlt => ?_) fun hlt => ?_
  case refine_2 =>
    have hin : i = d.n := by omega
    subst hst hin
    set_option maxRecDepth 100000 in simp (maxSteps := 10000000) only [go_sem, Nat.reduceAdd, Nat.reduceSub, Nat.reduceMul, Nat.reduceLT, Nat.reduceLeDiff, Nat.reduceEqDiff, Nat.reduceMod, Nat.reduceDiv, Int.reduceNeg, Int.reduceLE, Int.reduceLT, Int.reduceToNat, Int.reduceEq, Int.reduceNe, ↓reduceIte,  hlt]
    rw [← hr, othT, Disk.others, if_pos (by
      rw [List.all_eq_true]
      intro j hj
      obtain ⟨q1, q2⟩ := mem_rest.1 hj
      exact decide_eq_true (hp j q1 q2))]
    rfl
  have hlt' : i < d.n := by omega
  set_option maxRecDepth 100000 in simp (maxSteps := 10000000) only [go_sem, Nat.reduceAdd, Nat.reduceSub, Nat.reduceMul, Nat.reduceLT, Nat.reduceLeDiff, Nat.reduceEqDiff, Nat.reduceMod, Nat.reduceDiv, Int.reduceNeg, Int.reduceLE, Int.reduceLT, Int.reduceToNat, Int.reduceEq, Int.reduceNe, ↓reduceIte,  hlt]
  refine Classical.byCases (fun hb : (i : Int) = (but : Int) => ?_) fun hb => ?_
  · have hbn : i = but := by omega
    set_option maxRecDepth 100000 in simp (maxSteps := 10000000) only [go_sem, Nat.reduceAdd, Nat.reduceSub, Nat.reduceMul, Nat.reduceLT, Nat.reduceLeDiff, Nat.reduceEqDiff, Nat.reduceMod, Nat.reduceDiv, Int.reduceNeg, Int.reduceLE, Int.reduceLT, Int.reduceToNat, Int.reduceEq, Int.reduceNe, ↓reduceIte,  hb, decide_true]
    refine ih (i + 1, c) _ ⟨by omega, fun j hj hjb => hp j (by omega) hjb⟩ (by simp only; omega) ?_
    set_option maxRecDepth 100000 in simp (maxSteps := 10000000) only [go_sem, Nat.reduceAdd, Nat.reduceSub, Nat.reduceMul, Nat.reduceLT, Nat.reduceLeDiff, Nat.reduceEqDiff, Nat.reduceMod, Nat.reduceDiv, Int.reduceNeg, Int.reduceLE, Int.reduceLT, Int.reduceToNat, Int.reduceEq, Int.reduceNe, ↓reduceIte,  ← hb, wrap_succ (show i < 9223372036854775807 by omega), othX_skip d k hbn]
  have hbn : ¬ i = but := by omega
  set_option maxRecDepth 100000 in simp (maxSteps := 10000000) only [go_sem, Nat.reduceAdd, Nat.reduceSub, Nat.reduceMul, Nat.reduceLT, Nat.reduceLeDiff, Nat.reduceEqDiff, Nat.reduceMod, Nat.reduceDiv, Int.reduceNeg, Int.reduceLE, Int.reduceLT, Int.reduceToNat, Int.reduceEq, Int.reduceNe, ↓reduceIte,  hb, decide_false]
  refine ifI (fun hs => ?_) fun hs => ?_
  · set_option maxRecDepth 100000 in simp (maxSteps := 10000000) only [go_sem, Nat.reduceAdd, Nat.reduceSub, Nat.reduceMul, Nat.reduceLT, Nat.reduceLeDiff, Nat.reduceEqDiff, Nat.reduceMod, Nat.reduceDiv, Int.reduceNeg, Int.reduceLE, Int.reduceLT, Int.reduceToNat, Int.reduceEq, Int.reduceNe, ↓reduceIte,  hs]
    rw [← hr, othT, Disk.others, if_neg (fun q => hs (of_decide_eq_true (List.all_eq_true.1 q i (mem_rest.2 ⟨hlt', hbn⟩))))]
  have hs0 : (nth d.units i).state = 0 := Classical.not_not.1 hs
  obtain ⟨a1, a2⟩ := h.active hlt' hs0 hk
  have hx := Xor_good [othX d but k i, d.sec i k] (by show 2 ≤ 1000000; decide) (by
    intro s hs
    simp only [List.mem_cons, List.not_mem_nil, or_false] at hs
    rcases hs with rfl | rfl
    · exact size_xorL _
    · exact a2)
  rw [xorL_two] at hx
  set_option maxRecDepth 100000 in simp (maxSteps := 10000000) only [go_sem, Nat.reduceAdd, Nat.reduceSub, Nat.reduceMul, Nat.reduceLT, Nat.reduceLeDiff, Nat.reduceEqDiff, Nat.reduceMod, Nat.reduceDiv, Int.reduceNeg, Int.reduceLE, Int.reduceLT, Int.reduceToNat, Int.reduceEq, Int.reduceNe, ↓reduceIte,  hs0, not_true_eq_false, decide_false, show (k : Int) < ((nth d.units i).secs.length : Int) by exact Int.ofNat_lt.2 a1, show k < (nth d.units i).secs.length from a1, sec_nth, show 2 * 1 ≤ 16777216 by decide]
  refine call_of (hx) ?_
  set_option maxRecDepth 100000 in simp (maxSteps := 10000000) only [go_sem, Nat.reduceAdd, Nat.reduceSub, Nat.reduceMul, Nat.reduceLT, Nat.reduceLeDiff, Nat.reduceEqDiff, Nat.reduceMod, Nat.reduceDiv, Int.reduceNeg, Int.reduceLE, Int.reduceLT, Int.reduceToNat, Int.reduceEq, Int.reduceNe, ↓reduceIte]
  refine ih (i + 1, c + 1) _ ⟨by omega, fun j hj hjb => ?_⟩ (by simp only; omega) ?_
  · rcases Nat.lt_or_ge j i with q | q
    · exact hp j q hjb
    · have : j = i := by omega
      subst this; exact hs0
  · set_option maxRecDepth 100000 in simp (maxSteps := 10000000) only [go_sem, Nat.reduceAdd, Nat.reduceSub, Nat.reduceMul, Nat.reduceLT, Nat.reduceLeDiff, Nat.reduceEqDiff, Nat.reduceMod, Nat.reduceDiv, Int.reduceNeg, Int.reduceLE, Int.reduceLT, Int.reduceToNat, Int.reduceEq, Int.reduceNe, ↓reduceIte,  wrap_succ (show i < 9223372036854775807 by omega), othX_step d k hbn]

end Go.Proofs.Ytdfdagfgkijpcaa.C06
