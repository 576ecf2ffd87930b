/- Chapter 6: the writes to units that a write makes. -/
import Derived.Test.YtdfdagfgkijpcaaA10
namespace Go.Proofs.Ytdfdagfgkijpcaa.C06
open Go Go.Proofs Go.Proofs.Ytdfdagfgkijpcaa.Ab
set_option linter.unusedSimpArgs false
set_option linter.unusedVariables false
attribute [local congr] ite_ctx

theorem Okd.read16 {d : Disk} (h : Okd d) {s : Nat} (hs : s < d.count) {b : ByteArray} (hb : d.read s = some b) : b.size = 16 := by
  have hU := h.pU_lt s
  have hA := h.pA_lt hs
  unfold Disk.read at hb
  split at hb
  · rename_i h0; cases hb; exact (h.active hU h0 hA).2
  split at hb
  · rename_i h1
    cases hb
    have := h.n1 h1.1
    exact (h.active (by omega) h1.2 hA).2
  split at hb
  · unfold Disk.others at hb
    split at hb
    · cases hb; exact size_xorL _
    · cases hb
  · cases hb

theorem sumGo_append {d : Disk} : ∀ {l : List Nat} {b c : ByteArray} (m : List Nat), sumGo d l b = some c → sumGo d (l ++ m) b = sumGo d m c
  | [], b, c, m, h => by simp only [sumGo, Option.some.injEq] at h; subst h; rfl
  | i :: l, b, c, m, h => by
    simp only [sumGo, List.cons_append] at h ⊢
    cases hr : d.read i with
    | none => rw [hr] at h; cases h
    | some x => rw [hr] at h; simp only at h ⊢; exact sumGo_append m h
/-- The first of a stripe's sectors, but one. -/
def part (d : Disk) (s j : Nat) : List Nat := (List.range' (d.pA s * (d.n - 1)) j).filter fun i => !decide (i = s)
theorem part_succ (d : Disk) (s j : Nat) : part d s (j + 1) = part d s j ++ if d.pA s * (d.n - 1) + j = s then [] else [d.pA s * (d.n - 1) + j] := by
  unfold part
  rw [List.range'_concat, List.filter_append, Nat.one_mul]
  by_cases h : d.pA s * (d.n - 1) + j = s <;> simp [h]
theorem part_all (d : Disk) (s : Nat) : part d s (d.n - 1) = d.mates s := rfl
theorem part_split (d : Disk) (s : Nat) {j : Nat} (hj : j < d.n - 1) (hne : ¬ d.pA s * (d.n - 1) + j = s) : ∃ m, d.mates s = part d s j ++ (d.pA s * (d.n - 1) + j) :: m := by
  refine ⟨(List.range' (d.pA s * (d.n - 1) + j + 1) (d.n - 1 - j - 1)).filter fun i => !decide (i = s), ?_⟩
  rw [← part_all]
  unfold part
  have e : List.range' (d.pA s * (d.n - 1)) (d.n - 1) = List.range' (d.pA s * (d.n - 1)) j ++ (d.pA s * (d.n - 1) + j) :: List.range' (d.pA s * (d.n - 1) + j + 1) (d.n - 1 - j - 1) := by
    rw [← List.range'_succ, List.range'_append_1]
    congr 1; omega
  rw [e, List.filter_append, List.filter_cons, if_pos (by simp [hne])]
theorem sum_none {d : Disk} {s j : Nat} {b c : ByteArray} (hj : j < d.n - 1) (hne : ¬ d.pA s * (d.n - 1) + j = s) (h : sumGo d (part d s j) b = some c) (hr : d.read (d.pA s * (d.n - 1) + j) = none) : d.sum s b = none := by
  obtain ⟨m, hm⟩ := part_split d s hj hne
  unfold Disk.sum
  rw [hm, sumGo_append _ h]
  simp only [sumGo, hr]

/-- What the function answers where it can write: an own row of writes. -/
def WrOk (d : Disk) (s : Nat) (b : ByteArray) (x : List UW) : Prop := ∃ id ver, id < 117 ∧ AnsM Try.prog 57 117 [] [.agg (encDisk d), .agg [.int .i64 (s : Int), .str b]] (.tup [.ref id ver, .bool true]) [(id, .obj ver 64 3 false true (x.map encUW))]
def WrNo (d : Disk) (s : Nat) (b : ByteArray) : Prop := Ans Try.prog 57 [.agg (encDisk d), .agg [.int .i64 (s : Int), .str b]] (.tup [.nils, .bool false])
def WrC (d : Disk) (s : Nat) (b : ByteArray) : Prop := match d.writes s b with
  | some x => WrOk d s b x
  | none => WrNo d s b
theorem plain1 {d : Disk} (hk : ¬ d.kind = 2) (u : DU) (hu : d.units = [u]) (s : Nat) (b : ByteArray) : d.writes s b = if u.state = 1 then none else some [⟨0, s, b⟩] := by
  unfold Disk.writes
  rw [if_neg hk]
  unfold Disk.plainW
  have hn : d.n = 1 := by unfold Disk.n; rw [hu]; rfl
  have h0 : d.at 0 = u := by unfold Disk.at; rw [hu]; rfl
  rw [hn, show List.range 1 = [0] by decide]
  by_cases h : u.state = 1 <;> simp [h0, h, okW]
theorem plain2 {d : Disk} (hk : ¬ d.kind = 2) (u v : DU) (hu : d.units = [u, v]) (s : Nat) (b : ByteArray) :
    d.writes s b = if u.state = 1 then if v.state = 1 then none else some [⟨1, s, b⟩] else if v.state = 1 then some [⟨0, s, b⟩] else some [⟨0, s, b⟩, ⟨1, s, b⟩] := by
  unfold Disk.writes
  rw [if_neg hk]
  unfold Disk.plainW
  have hn : d.n = 2 := by unfold Disk.n; rw [hu]; rfl
  have h0 : d.at 0 = u := by unfold Disk.at; rw [hu]; rfl
  have h1 : d.at 1 = v := by unfold Disk.at; rw [hu]; rfl
  rw [hn, show List.range 2 = [0, 1] by decide]
  by_cases h : u.state = 1 <;> by_cases h2 : v.state = 1 <;> simp [h0, h1, h, h2, okW, List.filter_cons]
theorem small1 : (0 + 1) * 32 ≤ 140737488355328 ∧ 0 + 1 ≤ maxLen := by unfold maxLen; decide

set_option maxHeartbeats 8000000 in
theorem writes_plain1 (d : Disk) (h : Okd d) (hk : ¬ d.kind = 2) (u : DU) (hu : d.units = [u]) {s : Nat} (hs : s < d.count) (b : ByteArray) : WrC d s b := by
  have hp := place_plain d (s : Int) hk
  unfold WrC
  rw [plain1 hk u hu]
  obtain ⟨kd, sz, us⟩ := d
  simp only at hu
  subst hu
  by_cases h1 : u.state = 1
  · rw [if_pos h1]
    simp only [WrNo]
    have ht : (u.state = 1) = True := eq_true h1
    refine good_run [(17, [4, 5, 15, 16, 82, 83, 84, 85, 86, 87, 88, 89, 90, 91, 92, 93, 94, 95, 96, 97, 98, 99, 100, 101, 102, 103, 104, 105], [104]), (5, [10, 11, 31, 32, 33, 34, 35, 36, 37, 38, 39, 40, 41, 42, 43, 44, 45, 46], [11])] mixed Try.func57 rfl Try.ntmps57 (rs := [.tmp 4, .tmp 5]) rfl (by decide +kernel) (by kernel_rfl) rfl ?_
    rw [startE_eq 117 _ _ _ rfl rfl]
    set_option maxRecDepth 100000 in simp (maxSteps := 10000000) only [go_sem, Nat.reduceAdd, Nat.reduceSub, Nat.reduceMul, Nat.reduceLT, Nat.reduceLeDiff, Nat.reduceEqDiff, Nat.reduceMod, Nat.reduceDiv, Int.reduceNeg, Int.reduceLE, Int.reduceLT, Int.reduceToNat, Int.reduceEq, Int.reduceNe, ↓reduceIte]
    refine call_of (hp) ?_
    set_option maxRecDepth 100000 in simp (maxSteps := 10000000) only [go_sem, Nat.reduceAdd, Nat.reduceSub, Nat.reduceMul, Nat.reduceLT, Nat.reduceLeDiff, Nat.reduceEqDiff, Nat.reduceMod, Nat.reduceDiv, Int.reduceNeg, Int.reduceLE, Int.reduceLT, Int.reduceToNat, Int.reduceEq, Int.reduceNe, ↓reduceIte]
    refine loop_unfold ?_
    set_option maxRecDepth 100000 in simp (maxSteps := 10000000) only [go_sem, Nat.reduceAdd, Nat.reduceSub, Nat.reduceMul, Nat.reduceLT, Nat.reduceLeDiff, Nat.reduceEqDiff, Nat.reduceMod, Nat.reduceDiv, Int.reduceNeg, Int.reduceLE, Int.reduceLT, Int.reduceToNat, Int.reduceEq, Int.reduceNe, ↓reduceIte,  ht, not_true_eq_false, decide_false]
    refine loop_unfold ?_
    set_option maxRecDepth 100000 in simp (maxSteps := 10000000) only [go_sem, Nat.reduceAdd, Nat.reduceSub, Nat.reduceMul, Nat.reduceLT, Nat.reduceLeDiff, Nat.reduceEqDiff, Nat.reduceMod, Nat.reduceDiv, Int.reduceNeg, Int.reduceLE, Int.reduceLT, Int.reduceToNat, Int.reduceEq, Int.reduceNe, ↓reduceIte]
  · rw [if_neg h1]
    simp only [WrOk]
    refine ⟨45, 1, by decide, ?_⟩
    have ht : (u.state = 1) = False := eq_false h1
    refine goodM_run [(17, [4, 5, 15, 16, 82, 83, 84, 85, 86, 87, 88, 89, 90, 91, 92, 93, 94, 95, 96, 97, 98, 99, 100, 101, 102, 103, 104, 105], [104]), (5, [10, 11, 31, 32, 33, 34, 35, 36, 37, 38, 39, 40, 41, 42, 43, 44, 45, 46], [11])] mixed Try.func57 rfl Try.ntmps57 (rs := [.tmp 4, .tmp 5]) rfl (by decide +kernel) (by kernel_rfl) ?_
    rw [startM_eq 117 _ _ _ _ rfl rfl]
    set_option maxRecDepth 100000 in simp (maxSteps := 10000000) only [go_sem, Nat.reduceAdd, Nat.reduceSub, Nat.reduceMul, Nat.reduceLT, Nat.reduceLeDiff, Nat.reduceEqDiff, Nat.reduceMod, Nat.reduceDiv, Int.reduceNeg, Int.reduceLE, Int.reduceLT, Int.reduceToNat, Int.reduceEq, Int.reduceNe, ↓reduceIte]
    refine call_of (hp) ?_
    set_option maxRecDepth 100000 in simp (maxSteps := 10000000) only [go_sem, Nat.reduceAdd, Nat.reduceSub, Nat.reduceMul, Nat.reduceLT, Nat.reduceLeDiff, Nat.reduceEqDiff, Nat.reduceMod, Nat.reduceDiv, Int.reduceNeg, Int.reduceLE, Int.reduceLT, Int.reduceToNat, Int.reduceEq, Int.reduceNe, ↓reduceIte]
    refine loop_unfold ?_
    set_option maxRecDepth 100000 in simp (maxSteps := 10000000) only [go_sem, Nat.reduceAdd, Nat.reduceSub, Nat.reduceMul, Nat.reduceLT, Nat.reduceLeDiff, Nat.reduceEqDiff, Nat.reduceMod, Nat.reduceDiv, Int.reduceNeg, Int.reduceLE, Int.reduceLT, Int.reduceToNat, Int.reduceEq, Int.reduceNe, ↓reduceIte,  ht, not_false_eq_true, decide_true, show (1 : Nat) ≤ maxLen by unfold maxLen; omega]
    refine loop_unfold ?_
    set_option maxRecDepth 100000 in simp (maxSteps := 10000000) only [go_sem, Nat.reduceAdd, Nat.reduceSub, Nat.reduceMul, Nat.reduceLT, Nat.reduceLeDiff, Nat.reduceEqDiff, Nat.reduceMod, Nat.reduceDiv, Int.reduceNeg, Int.reduceLE, Int.reduceLT, Int.reduceToNat, Int.reduceEq, Int.reduceNe, ↓reduceIte]
    simp
set_option maxHeartbeats 8000000 in
theorem writes_plain2 (d : Disk) (h : Okd d) (hk : ¬ d.kind = 2) (u v : DU) (hu : d.units = [u, v]) {s : Nat} (hs : s < d.count) (b : ByteArray) : WrC d s b := by
  have hp := place_plain d (s : Int) hk
  unfold WrC
  rw [plain2 hk u v hu]
  obtain ⟨kd, sz, us⟩ := d
  simp only at hu
  subst hu
  have m1 : (1 : Nat) ≤ maxLen := by unfold maxLen; omega
  have m2 : (1 + 1 : Nat) ≤ maxLen := by unfold maxLen; omega
  have m3 : (2 : Nat) ≤ maxLen := by unfold maxLen; omega
  by_cases h1 : u.state = 1
  · rw [if_pos h1]
    have ht : (u.state = 1) = True := eq_true h1
    by_cases h2 : v.state = 1
    · rw [if_pos h2]
      simp only [WrNo]
      have ht2 : (v.state = 1) = True := eq_true h2
      refine good_run [(17, [4, 5, 15, 16, 82, 83, 84, 85, 86, 87, 88, 89, 90, 91, 92, 93, 94, 95, 96, 97, 98, 99, 100, 101, 102, 103, 104, 105], [104]), (5, [10, 11, 31, 32, 33, 34, 35, 36, 37, 38, 39, 40, 41, 42, 43, 44, 45, 46], [11])] mixed Try.func57 rfl Try.ntmps57 (rs := [.tmp 4, .tmp 5]) rfl (by decide +kernel) (by kernel_rfl) rfl ?_
      rw [startE_eq 117 _ _ _ rfl rfl]
      set_option maxRecDepth 100000 in simp (maxSteps := 10000000) only [go_sem, Nat.reduceAdd, Nat.reduceSub, Nat.reduceMul, Nat.reduceLT, Nat.reduceLeDiff, Nat.reduceEqDiff, Nat.reduceMod, Nat.reduceDiv, Int.reduceNeg, Int.reduceLE, Int.reduceLT, Int.reduceToNat, Int.reduceEq, Int.reduceNe, ↓reduceIte]
      refine call_of (hp) ?_
      set_option maxRecDepth 100000 in simp (maxSteps := 10000000) only [go_sem, Nat.reduceAdd, Nat.reduceSub, Nat.reduceMul, Nat.reduceLT, Nat.reduceLeDiff, Nat.reduceEqDiff, Nat.reduceMod, Nat.reduceDiv, Int.reduceNeg, Int.reduceLE, Int.reduceLT, Int.reduceToNat, Int.reduceEq, Int.reduceNe, ↓reduceIte]
      refine loop_unfold ?_
      set_option maxRecDepth 100000 in simp (maxSteps := 10000000) only [go_sem, Nat.reduceAdd, Nat.reduceSub, Nat.reduceMul, Nat.reduceLT, Nat.reduceLeDiff, Nat.reduceEqDiff, Nat.reduceMod, Nat.reduceDiv, Int.reduceNeg, Int.reduceLE, Int.reduceLT, Int.reduceToNat, Int.reduceEq, Int.reduceNe, ↓reduceIte,  ht, not_true_eq_false, decide_false]
      refine loop_unfold ?_
      set_option maxRecDepth 100000 in simp (maxSteps := 10000000) only [go_sem, Nat.reduceAdd, Nat.reduceSub, Nat.reduceMul, Nat.reduceLT, Nat.reduceLeDiff, Nat.reduceEqDiff, Nat.reduceMod, Nat.reduceDiv, Int.reduceNeg, Int.reduceLE, Int.reduceLT, Int.reduceToNat, Int.reduceEq, Int.reduceNe, ↓reduceIte,  ht2, not_true_eq_false, decide_false]
      refine loop_unfold ?_
      set_option maxRecDepth 100000 in simp (maxSteps := 10000000) only [go_sem, Nat.reduceAdd, Nat.reduceSub, Nat.reduceMul, Nat.reduceLT, Nat.reduceLeDiff, Nat.reduceEqDiff, Nat.reduceMod, Nat.reduceDiv, Int.reduceNeg, Int.reduceLE, Int.reduceLT, Int.reduceToNat, Int.reduceEq, Int.reduceNe, ↓reduceIte]
    · rw [if_neg h2]
      simp only [WrOk]
      refine ⟨45, 1, by decide, ?_⟩
      have ht2 : (v.state = 1) = False := eq_false h2
      refine goodM_run [(17, [4, 5, 15, 16, 82, 83, 84, 85, 86, 87, 88, 89, 90, 91, 92, 93, 94, 95, 96, 97, 98, 99, 100, 101, 102, 103, 104, 105], [104]), (5, [10, 11, 31, 32, 33, 34, 35, 36, 37, 38, 39, 40, 41, 42, 43, 44, 45, 46], [11])] mixed Try.func57 rfl Try.ntmps57 (rs := [.tmp 4, .tmp 5]) rfl (by decide +kernel) (by kernel_rfl) ?_
      rw [startM_eq 117 _ _ _ _ rfl rfl]
      set_option maxRecDepth 100000 in simp (maxSteps := 10000000) only [go_sem, Nat.reduceAdd, Nat.reduceSub, Nat.reduceMul, Nat.reduceLT, Nat.reduceLeDiff, Nat.reduceEqDiff, Nat.reduceMod, Nat.reduceDiv, Int.reduceNeg, Int.reduceLE, Int.reduceLT, Int.reduceToNat, Int.reduceEq, Int.reduceNe, ↓reduceIte]
      refine call_of (hp) ?_
      set_option maxRecDepth 100000 in simp (maxSteps := 10000000) only [go_sem, Nat.reduceAdd, Nat.reduceSub, Nat.reduceMul, Nat.reduceLT, Nat.reduceLeDiff, Nat.reduceEqDiff, Nat.reduceMod, Nat.reduceDiv, Int.reduceNeg, Int.reduceLE, Int.reduceLT, Int.reduceToNat, Int.reduceEq, Int.reduceNe, ↓reduceIte]
      refine loop_unfold ?_
      set_option maxRecDepth 100000 in simp (maxSteps := 10000000) only [go_sem, Nat.reduceAdd, Nat.reduceSub, Nat.reduceMul, Nat.reduceLT, Nat.reduceLeDiff, Nat.reduceEqDiff, Nat.reduceMod, Nat.reduceDiv, Int.reduceNeg, Int.reduceLE, Int.reduceLT, Int.reduceToNat, Int.reduceEq, Int.reduceNe, ↓reduceIte,  ht, not_true_eq_false, decide_false]
      refine loop_unfold ?_
      set_option maxRecDepth 100000 in simp (maxSteps := 10000000) only [go_sem, Nat.reduceAdd, Nat.reduceSub, Nat.reduceMul, Nat.reduceLT, Nat.reduceLeDiff, Nat.reduceEqDiff, Nat.reduceMod, Nat.reduceDiv, Int.reduceNeg, Int.reduceLE, Int.reduceLT, Int.reduceToNat, Int.reduceEq, Int.reduceNe, ↓reduceIte,  ht2, not_false_eq_true, decide_true, m1]
      refine loop_unfold ?_
      set_option maxRecDepth 100000 in simp (maxSteps := 10000000) only [go_sem, Nat.reduceAdd, Nat.reduceSub, Nat.reduceMul, Nat.reduceLT, Nat.reduceLeDiff, Nat.reduceEqDiff, Nat.reduceMod, Nat.reduceDiv, Int.reduceNeg, Int.reduceLE, Int.reduceLT, Int.reduceToNat, Int.reduceEq, Int.reduceNe, ↓reduceIte]
      simp
  · rw [if_neg h1]
    have ht : (u.state = 1) = False := eq_false h1
    by_cases h2 : v.state = 1
    · rw [if_pos h2]
      simp only [WrOk]
      refine ⟨45, 1, by decide, ?_⟩
      have ht2 : (v.state = 1) = True := eq_true h2
      refine goodM_run [(17, [4, 5, 15, 16, 82, 83, 84, 85, 86, 87, 88, 89, 90, 91, 92, 93, 94, 95, 96, 97, 98, 99, 100, 101, 102, 103, 104, 105], [104]), (5, [10, 11, 31, 32, 33, 34, 35, 36, 37, 38, 39, 40, 41, 42, 43, 44, 45, 46], [11])] mixed Try.func57 rfl Try.ntmps57 (rs := [.tmp 4, .tmp 5]) rfl (by decide +kernel) (by kernel_rfl) ?_
      rw [startM_eq 117 _ _ _ _ rfl rfl]
      set_option maxRecDepth 100000 in simp (maxSteps := 10000000) only [go_sem, Nat.reduceAdd, Nat.reduceSub, Nat.reduceMul, Nat.reduceLT, Nat.reduceLeDiff, Nat.reduceEqDiff, Nat.reduceMod, Nat.reduceDiv, Int.reduceNeg, Int.reduceLE, Int.reduceLT, Int.reduceToNat, Int.reduceEq, Int.reduceNe, ↓reduceIte]
      refine call_of (hp) ?_
      set_option maxRecDepth 100000 in simp (maxSteps := 10000000) only [go_sem, Nat.reduceAdd, Nat.reduceSub, Nat.reduceMul, Nat.reduceLT, Nat.reduceLeDiff, Nat.reduceEqDiff, Nat.reduceMod, Nat.reduceDiv, Int.reduceNeg, Int.reduceLE, Int.reduceLT, Int.reduceToNat, Int.reduceEq, Int.reduceNe, ↓reduceIte]
      refine loop_unfold ?_
      set_option maxRecDepth 100000 in simp (maxSteps := 10000000) only [go_sem, Nat.reduceAdd, Nat.reduceSub, Nat.reduceMul, Nat.reduceLT, Nat.reduceLeDiff, Nat.reduceEqDiff, Nat.reduceMod, Nat.reduceDiv, Int.reduceNeg, Int.reduceLE, Int.reduceLT, Int.reduceToNat, Int.reduceEq, Int.reduceNe, ↓reduceIte,  ht, not_false_eq_true, decide_true, m1]
      refine loop_unfold ?_
      set_option maxRecDepth 100000 in simp (maxSteps := 10000000) only [go_sem, Nat.reduceAdd, Nat.reduceSub, Nat.reduceMul, Nat.reduceLT, Nat.reduceLeDiff, Nat.reduceEqDiff, Nat.reduceMod, Nat.reduceDiv, Int.reduceNeg, Int.reduceLE, Int.reduceLT, Int.reduceToNat, Int.reduceEq, Int.reduceNe, ↓reduceIte,  ht2, not_true_eq_false, decide_false]
      refine loop_unfold ?_
      set_option maxRecDepth 100000 in simp (maxSteps := 10000000) only [go_sem, Nat.reduceAdd, Nat.reduceSub, Nat.reduceMul, Nat.reduceLT, Nat.reduceLeDiff, Nat.reduceEqDiff, Nat.reduceMod, Nat.reduceDiv, Int.reduceNeg, Int.reduceLE, Int.reduceLT, Int.reduceToNat, Int.reduceEq, Int.reduceNe, ↓reduceIte]
      simp
    · rw [if_neg h2]
      simp only [WrOk]
      refine ⟨45, 2, by decide, ?_⟩
      have ht2 : (v.state = 1) = False := eq_false h2
      refine goodM_run [(17, [4, 5, 15, 16, 82, 83, 84, 85, 86, 87, 88, 89, 90, 91, 92, 93, 94, 95, 96, 97, 98, 99, 100, 101, 102, 103, 104, 105], [104]), (5, [10, 11, 31, 32, 33, 34, 35, 36, 37, 38, 39, 40, 41, 42, 43, 44, 45, 46], [11])] mixed Try.func57 rfl Try.ntmps57 (rs := [.tmp 4, .tmp 5]) rfl (by decide +kernel) (by kernel_rfl) ?_
      rw [startM_eq 117 _ _ _ _ rfl rfl]
      set_option maxRecDepth 100000 in simp (maxSteps := 10000000) only [go_sem, Nat.reduceAdd, Nat.reduceSub, Nat.reduceMul, Nat.reduceLT, Nat.reduceLeDiff, Nat.reduceEqDiff, Nat.reduceMod, Nat.reduceDiv, Int.reduceNeg, Int.reduceLE, Int.reduceLT, Int.reduceToNat, Int.reduceEq, Int.reduceNe, ↓reduceIte]
      refine call_of (hp) ?_
      set_option maxRecDepth 100000 in simp (maxSteps := 10000000) only [go_sem, Nat.reduceAdd, Nat.reduceSub, Nat.reduceMul, Nat.reduceLT, Nat.reduceLeDiff, Nat.reduceEqDiff, Nat.reduceMod, Nat.reduceDiv, Int.reduceNeg, Int.reduceLE, Int.reduceLT, Int.reduceToNat, Int.reduceEq, Int.reduceNe, ↓reduceIte]
      refine loop_unfold ?_
      set_option maxRecDepth 100000 in simp (maxSteps := 10000000) only [go_sem, Nat.reduceAdd, Nat.reduceSub, Nat.reduceMul, Nat.reduceLT, Nat.reduceLeDiff, Nat.reduceEqDiff, Nat.reduceMod, Nat.reduceDiv, Int.reduceNeg, Int.reduceLE, Int.reduceLT, Int.reduceToNat, Int.reduceEq, Int.reduceNe, ↓reduceIte,  ht, not_false_eq_true, decide_true, m1]
      refine loop_unfold ?_
      set_option maxRecDepth 100000 in simp (maxSteps := 10000000) only [go_sem, Nat.reduceAdd, Nat.reduceSub, Nat.reduceMul, Nat.reduceLT, Nat.reduceLeDiff, Nat.reduceEqDiff, Nat.reduceMod, Nat.reduceDiv, Int.reduceNeg, Int.reduceLE, Int.reduceLT, Int.reduceToNat, Int.reduceEq, Int.reduceNe, ↓reduceIte,  ht2, not_false_eq_true, decide_true, m1, m2, m3]
      refine loop_unfold ?_
      set_option maxRecDepth 100000 in simp (maxSteps := 10000000) only [go_sem, Nat.reduceAdd, Nat.reduceSub, Nat.reduceMul, Nat.reduceLT, Nat.reduceLeDiff, Nat.reduceEqDiff, Nat.reduceMod, Nat.reduceDiv, Int.reduceNeg, Int.reduceLE, Int.reduceLT, Int.reduceToNat, Int.reduceEq, Int.reduceNe, ↓reduceIte]
      simp

end Go.Proofs.Ytdfdagfgkijpcaa.C06
