/- Chapter 6: a disk made redundant again: for one to five units. Printed by gen_a23.py. -/
import Derived.Test.YtdfdagfgkijpcaaA20
namespace Go.Proofs.Ytdfdagfgkijpcaa.C06
open Go Go.Proofs Go.Proofs.Ytdfdagfgkijpcaa.Ab
set_option linter.unusedSimpArgs false
set_option linter.unusedVariables false
attribute [local congr] ite_ctx

/-! ### A mirror -/
def mirL (d : Disk) (s : Nat) : List ByteArray := (List.range d.sz).map fun k => if k < s then d.sec 0 k else d.sec 1 k
def mirRow (d : Disk) (s : Nat) : List (List AV) := (mirL d s).map encStr
theorem secs_range {d : Disk} {j : Nat} (h : (d.at j).secs.length = d.sz) : (d.at j).secs = (List.range d.sz).map fun k => d.sec j k := by
  apply List.ext_getElem (by simp [h])
  intro k h1 h2
  simp only [List.getElem_map, List.getElem_range, Disk.sec, List.getD_eq_getElem?_getD, List.getElem?_eq_getElem h1, Option.getD_some]
theorem mirRow_zero {d : Disk} (hl : (d.at 1).secs.length = d.sz) : mirRow d 0 = (d.at 1).secs.map encStr := by
  rw [secs_range hl]
  rfl
theorem mirRow_all {d : Disk} (hl : (d.at 0).secs.length = d.sz) : mirRow d d.sz = (d.at 0).secs.map encStr := by
  rw [secs_range hl]
  unfold mirRow mirL
  congr 1
  exact List.map_congr_left fun k hk => if_pos (List.mem_range.1 hk)
theorem mirRow_len (d : Disk) (s : Nat) : (mirRow d s).length = d.sz := by simp [mirRow, mirL]
theorem mirRow_at {d : Disk} {s : Nat} (h : s < d.sz) : ∃ b, (mirRow d s)[s]? = some [.str b] := ⟨_, at_map (f := encStr) (l := mirL d s) (by simpa [mirL] using h)⟩
theorem mirRow_succ {d : Disk} {s : Nat} (h : s < d.sz) : mirRow d (s + 1) = (mirRow d s).set s [.str (d.sec 0 s)] := by
  unfold mirRow
  rw [show ([.str (d.sec 0 s)] : List AV) = encStr (d.sec 0 s) from rfl, ← List.map_set]
  congr 1
  unfold mirL
  apply List.ext_getElem (by simp)
  intro k h1 h2
  rw [List.getElem_set]
  simp only [List.getElem_map, List.getElem_range]
  by_cases q : s = k
  · subst q; simp
  · rw [if_neg q]
    by_cases q2 : k < s
    · rw [if_pos q2, if_pos (by omega)]
    · rw [if_neg q2, if_neg (by omega)]
theorem row_str {d : Disk} {j s : Nat} (hl : (d.at j).secs.length = d.sz) (h : s < d.sz) : ((d.at j).secs.map encStr)[s]? = some [.str (d.sec j s)] := by
  rw [secs_range hl, List.map_map]
  simp [h, encStr]

/-! ### Parities -/
def synL (d : Disk) (s j : Nat) : List ByteArray := (List.range d.sz).map fun k => if k < s ∧ k % d.n = j then xorL ((rest d.n j).map fun i => d.sec i k) else d.sec j k
def synRow (d : Disk) (s j : Nat) : List (List AV) := (synL d s j).map encStr
def synD (d : Disk) (s : Nat) : Disk := { d with units := (List.range d.n).map fun j => ⟨(d.at j).state, synL d s j⟩ }
theorem synRow_zero {d : Disk} {j : Nat} (hl : (d.at j).secs.length = d.sz) : synRow d 0 j = (d.at j).secs.map encStr := by
  rw [secs_range hl]
  unfold synRow synL
  congr 1
theorem synRow_len (d : Disk) (s j : Nat) : (synRow d s j).length = d.sz := by simp [synRow, synL]
theorem synRow_at (d : Disk) (s j : Nat) (h : s < d.sz) : ∃ b, (synRow d s j)[s]? = some [.str b] := ⟨_, at_map (f := encStr) (l := synL d s j) (by simpa [synL] using h)⟩
theorem synRow_other {d : Disk} {s j : Nat} (h : ¬ s % d.n = j) : synRow d (s + 1) j = synRow d s j := by
  unfold synRow synL
  congr 1
  refine List.map_congr_left fun k hk => ?_
  by_cases q : s = k
  · subst q; rw [if_neg (fun q => h q.2), if_neg (fun q => h q.2)]
  · by_cases q2 : k < s ∧ k % d.n = j
    · rw [if_pos q2, if_pos ⟨by omega, q2.2⟩]
    · rw [if_neg q2, if_neg (fun q3 => q2 ⟨by omega, q3.2⟩)]
theorem synRow_set {d : Disk} {s j : Nat} (h : s % d.n = j) (hs : s < d.sz) : synRow d (s + 1) j = (synRow d s j).set s [.str (xorL ((rest d.n j).map fun i => d.sec i s))] := by
  unfold synRow
  rw [show ([.str (xorL ((rest d.n j).map fun i => d.sec i s))] : List AV) = encStr (xorL ((rest d.n j).map fun i => d.sec i s)) from rfl, ← List.map_set]
  congr 1
  unfold synL
  apply List.ext_getElem (by simp)
  intro k h1 h2
  rw [List.getElem_set]
  simp only [List.getElem_map, List.getElem_range]
  by_cases q : s = k
  · subst q; rw [if_pos rfl, if_pos ⟨by omega, h⟩]
  · rw [if_neg q]
    by_cases q2 : k < s ∧ k % d.n = j
    · rw [if_pos q2, if_pos ⟨by omega, q2.2⟩]
    · rw [if_neg q2, if_neg (fun q3 => q2 ⟨by omega, q3.2⟩)]
theorem synD_n (d : Disk) (s : Nat) : (synD d s).n = d.n := by simp [synD, Disk.n]
theorem synD_at {d : Disk} (s : Nat) {j : Nat} (hj : j < d.n) : (synD d s).at j = ⟨(d.at j).state, synL d s j⟩ := by
  simp [synD, Disk.at, List.getD_eq_getElem?_getD, hj]
theorem synD_sec {d : Disk} (s : Nat) {j k : Nat} (hj : j < d.n) (hk : k < d.sz) : (synD d s).sec j k = if k < s ∧ k % d.n = j then xorL ((rest d.n j).map fun i => d.sec i k) else d.sec j k := by
  simp only [Disk.sec, synD_at s hj]
  simp [synL, List.getD_eq_getElem?_getD, hk, Disk.sec]
theorem synD_whole {d : Disk} (h : Whole d) (s : Nat) : Whole (synD d s) where
  kind := h.kind
  n0 := fun q => by rw [synD_n]; exact h.n0 q
  n1 := fun q => by rw [synD_n]; exact h.n1 q
  n2 := fun q => by rw [synD_n]; exact h.n2 q
  size := h.size
  state := fun j hj => by rw [synD_n] at hj; rw [synD_at s hj]; exact h.state j hj
  len := fun j hj => by rw [synD_n] at hj; rw [synD_at s hj]; simp [synL]; rfl
  s16 := fun j k hj hk => by
    rw [synD_n] at hj
    have hk' : k < d.sz := hk
    rw [synD_sec s hj hk']
    split
    · exact size_xorL _
    · exact h.s16 j k hj hk'
theorem synD_others {d : Disk} (h : Whole d) {s u : Nat} (hs : s < d.sz) : othT (synD d s) u s = .tup [.str (xorL ((rest d.n u).map fun j => d.sec j s)), .bool true] := by
  have hall : (rest (synD d s).n u).all (fun j => decide (((synD d s).at j).state = 0)) = true := by
    rw [synD_n]
    refine List.all_eq_true.2 fun j hj => decide_eq_true ?_
    have hj' := (mem_rest.1 hj).1
    rw [synD_at s hj']; exact h.state j hj'
  have he : (synD d s).others u s = some (xorL ((rest d.n u).map fun j => d.sec j s)) := by
    unfold Disk.others
    rw [if_pos hall, synD_n]
    congr 2
    refine List.map_congr_left fun j hj => ?_
    rw [synD_sec s (mem_rest.1 hj).1 hs, if_neg (fun q => Nat.lt_irrefl _ q.1)]
  unfold othT
  rw [he]
theorem synced_D {d : Disk} (hk : d.kind = 2) : d.synced = synD d d.sz := by
  unfold Disk.synced synD
  rw [if_neg (by omega), if_pos hk]
  congr 1
  refine List.map_congr_left fun j hj => ?_
  show (⟨(d.at j).state, _⟩ : DU) = ⟨(d.at j).state, _⟩
  congr 1
  unfold synL
  refine List.map_congr_left fun k hk => ?_
  have hk' := List.mem_range.1 hk
  by_cases q : k % d.n = j
  · rw [if_pos q, if_pos ⟨hk', q⟩]
  · rw [if_neg q, if_neg (fun q2 => q q2.2)]

set_option maxHeartbeats 8000000 in
theorem Sync_1 (d : Disk) (hf : FitD d) (hW : Whole d) (hn : d.n = 1) (hk : d.kind = 0) : Ans Try.prog 28 [.agg (encDisk d)] (.tup [.agg (encDisk d.synced), .int .i64 0]) := by
  have hO := hW.okd
  have hz := hO.sz10
  have hde := diskErr_good d hf
  rw [hO.zero] at hde
  have hi := idle_whole hW
  have k1 : (d.kind = 1) = False := eq_false (by omega)
  have k2 : (d.kind = 2) = False := eq_false (by omega)
  have hlens : ∀ j, j < d.n → (d.at j).secs.length ≤ 1000000 := fun j hj => by have := hf.m _ (nth_mem (l := d.units) hj); exact Nat.le_trans this (by decide)
  have how := owned_1 d.kind d.size (d.at 0) (hlens 0 (by omega))
  have hdd := units_1 hn
  rw [← hdd] at how
  have hE : AV.agg (encDisk d.synced) = .agg [.int .i64 d.kind, .int .i64 d.size, .sl [[.int .i64 (d.at 0).state, .sl ((d.at 0).secs.map encStr)]]] := by
    have h1 : d.synced = d := by unfold Disk.synced; rw [if_neg (by omega), if_neg (by omega)]
    rw [h1]
    conv => lhs; rw [hdd]
    rfl
  rw [hE]
  refine good_run [(3000017, [], [103000000000000001000019, 103000000000000001001019, 103000000000000001002019, 103000000000000001003019, 103000000000000001004019, 101000000000000000000019]), (8, [6, 7, 23, 24, 25, 26, 27, 28, 29, 30, 31, 32, 33, 34, 35, 36, 37, 38, 39, 40, 41, 42, 43, 44, 45, 46, 47, 48, 49, 50, 51, 52, 53, 54, 55, 56, 57, 58, 59, 60, 61, 62, 63, 64, 65, 66], [])] mixed Try.func28 rfl Try.ntmps28 (rs := [.cell 2 24, .tmp 3]) rfl (by decide +kernel) (by kernel_rfl) rfl ?_
  rw [startE_eq 68 _ _ _ rfl rfl]
  set_option maxRecDepth 100000 in simp (maxSteps := 10000000) only [go_sem, Nat.reduceAdd, Nat.reduceSub, Nat.reduceMul, Nat.reduceLT, Nat.reduceLeDiff, Nat.reduceEqDiff, Nat.reduceMod, Nat.reduceDiv, Int.reduceNeg, Int.reduceLE, Int.reduceLT, Int.reduceToNat, Int.reduceEq, Int.reduceNe, ↓reduceIte]
  refine call_of (hde) ?_
  set_option maxRecDepth 100000 in simp (maxSteps := 10000000) only [go_sem, Nat.reduceAdd, Nat.reduceSub, Nat.reduceMul, Nat.reduceLT, Nat.reduceLeDiff, Nat.reduceEqDiff, Nat.reduceMod, Nat.reduceDiv, Int.reduceNeg, Int.reduceLE, Int.reduceLT, Int.reduceToNat, Int.reduceEq, Int.reduceNe, ↓reduceIte]
  refine call_of (inactive_good d hf) ?_
  set_option maxRecDepth 100000 in simp (maxSteps := 10000000) only [go_sem, Nat.reduceAdd, Nat.reduceSub, Nat.reduceMul, Nat.reduceLT, Nat.reduceLeDiff, Nat.reduceEqDiff, Nat.reduceMod, Nat.reduceDiv, Int.reduceNeg, Int.reduceLE, Int.reduceLT, Int.reduceToNat, Int.reduceEq, Int.reduceNe, ↓reduceIte,  hi]
  refine callM_of [] [19, 30] (how) ⟨rfl, rfl, rfl, by simp, by simp, by simp, by simp, rfl, rfl, rfl, onodup_of (l := [6, 12]) rfl (by decide)⟩ ?_
  set_option maxRecDepth 100000 in simp (maxSteps := 10000000) only [go_sem, Nat.reduceAdd, Nat.reduceSub, Nat.reduceMul, Nat.reduceLT, Nat.reduceLeDiff, Nat.reduceEqDiff, Nat.reduceMod, Nat.reduceDiv, Int.reduceNeg, Int.reduceLE, Int.reduceLT, Int.reduceToNat, Int.reduceEq, Int.reduceNe, ↓reduceIte]
  refine loop_by ([6, 7, 23, 24, 25, 26, 27, 28, 29, 30, 31, 32, 33, 34, 35, 36, 37, 38, 39, 40, 41, 42, 43, 44, 45, 46, 47, 48, 49, 50, 51, 52, 53, 54, 55, 56, 57, 58, 59, 60, 61, 62, 63, 64, 65, 66], []) (fun s : Nat => [(.s 22, .int .i64 (s : Int))]) (fun s => d.sz - s) (fun s => s ≤ d.sz) 0 rfl (Nat.zero_le _) ?_ ?_
  · set_option maxRecDepth 100000 in simp (maxSteps := 10000000) only [go_sem, Nat.reduceAdd, Nat.reduceSub, Nat.reduceMul, Nat.reduceLT, Nat.reduceLeDiff, Nat.reduceEqDiff, Nat.reduceMod, Nat.reduceDiv, Int.reduceNeg, Int.reduceLE, Int.reduceLT, Int.reduceToNat, Int.reduceEq, Int.reduceNe, ↓reduceIte]
  rintro c' st' hst' s hs ih
  set_option maxRecDepth 100000 in simp (maxSteps := 10000000) only [go_sem, Nat.reduceAdd, Nat.reduceSub, Nat.reduceMul, Nat.reduceLT, Nat.reduceLeDiff, Nat.reduceEqDiff, Nat.reduceMod, Nat.reduceDiv, Int.reduceNeg, Int.reduceLE, Int.reduceLT, Int.reduceToNat, Int.reduceEq, Int.reduceNe, ↓reduceIte]
  refine ifI (fun hlt => ?_) fun hlt => ?_
  case refine_2 =>
    have hss : s = d.sz := by omega
    subst hst' hss
    set_option maxRecDepth 100000 in simp (maxSteps := 10000000) only [go_sem, Nat.reduceAdd, Nat.reduceSub, Nat.reduceMul, Nat.reduceLT, Nat.reduceLeDiff, Nat.reduceEqDiff, Nat.reduceMod, Nat.reduceDiv, Int.reduceNeg, Int.reduceLE, Int.reduceLT, Int.reduceToNat, Int.reduceEq, Int.reduceNe, ↓reduceIte,  hlt]
  have hs2 : s < d.sz := by omega
  have hs3 : (s : Int) < (d.sz : Int) := by omega
  set_option maxRecDepth 100000 in simp (maxSteps := 10000000) only [go_sem, Nat.reduceAdd, Nat.reduceSub, Nat.reduceMul, Nat.reduceLT, Nat.reduceLeDiff, Nat.reduceEqDiff, Nat.reduceMod, Nat.reduceDiv, Int.reduceNeg, Int.reduceLE, Int.reduceLT, Int.reduceToNat, Int.reduceEq, Int.reduceNe, ↓reduceIte,  hlt, k1, k2, decide_false]
  refine ih (s + 1) _ (by omega) (by omega) ?_
  set_option maxRecDepth 100000 in simp (maxSteps := 10000000) only [go_sem, Nat.reduceAdd, Nat.reduceSub, Nat.reduceMul, Nat.reduceLT, Nat.reduceLeDiff, Nat.reduceEqDiff, Nat.reduceMod, Nat.reduceDiv, Int.reduceNeg, Int.reduceLE, Int.reduceLT, Int.reduceToNat, Int.reduceEq, Int.reduceNe, ↓reduceIte,  wrap_succ (show s < 9223372036854775807 by omega)]
set_option maxHeartbeats 8000000 in
theorem Sync_2 (d : Disk) (hf : FitD d) (hW : Whole d) (hn : d.n = 2) (hk : d.kind = 1) : Ans Try.prog 28 [.agg (encDisk d)] (.tup [.agg (encDisk d.synced), .int .i64 0]) := by
  have hO := hW.okd
  have hz := hO.sz10
  have hde := diskErr_good d hf
  rw [hO.zero] at hde
  have hi := idle_whole hW
  have k1 : (d.kind = 1) = True := eq_true (by omega)
  have k2 : (d.kind = 2) = False := eq_false (by omega)
  have hlens : ∀ j, j < d.n → (d.at j).secs.length ≤ 1000000 := fun j hj => by have := hf.m _ (nth_mem (l := d.units) hj); exact Nat.le_trans this (by decide)
  have how := owned_2 d.kind d.size (d.at 0) (d.at 1) (hlens 0 (by omega)) (hlens 1 (by omega))
  have hdd := units_2 hn
  rw [← hdd] at how
  have l0 := hW.len 0 (by omega)
  have l1 := hW.len 1 (by omega)
  have hE : AV.agg (encDisk d.synced) = .agg [.int .i64 d.kind, .int .i64 d.size, .sl [[.int .i64 (d.at 0).state, .sl ((d.at 0).secs.map encStr)], [.int .i64 (d.at 1).state, .sl (mirRow d d.sz)]]] := by
    rw [mirRow_all l0]
    unfold Disk.synced
    rw [if_pos hk]
    rfl
  have hrz := mirRow_zero l1
  rw [hE]
  refine good_run [(3000017, [], [103000000000000001000019, 103000000000000001001019, 103000000000000001002019, 103000000000000001003019, 103000000000000001004019, 101000000000000000000019]), (8, [6, 7, 23, 24, 25, 26, 27, 28, 29, 30, 31, 32, 33, 34, 35, 36, 37, 38, 39, 40, 41, 42, 43, 44, 45, 46, 47, 48, 49, 50, 51, 52, 53, 54, 55, 56, 57, 58, 59, 60, 61, 62, 63, 64, 65, 66], [])] mixed Try.func28 rfl Try.ntmps28 (rs := [.cell 2 24, .tmp 3]) rfl (by decide +kernel) (by kernel_rfl) rfl ?_
  rw [startE_eq 68 _ _ _ rfl rfl]
  set_option maxRecDepth 100000 in simp (maxSteps := 10000000) only [go_sem, Nat.reduceAdd, Nat.reduceSub, Nat.reduceMul, Nat.reduceLT, Nat.reduceLeDiff, Nat.reduceEqDiff, Nat.reduceMod, Nat.reduceDiv, Int.reduceNeg, Int.reduceLE, Int.reduceLT, Int.reduceToNat, Int.reduceEq, Int.reduceNe, ↓reduceIte]
  refine call_of (hde) ?_
  set_option maxRecDepth 100000 in simp (maxSteps := 10000000) only [go_sem, Nat.reduceAdd, Nat.reduceSub, Nat.reduceMul, Nat.reduceLT, Nat.reduceLeDiff, Nat.reduceEqDiff, Nat.reduceMod, Nat.reduceDiv, Int.reduceNeg, Int.reduceLE, Int.reduceLT, Int.reduceToNat, Int.reduceEq, Int.reduceNe, ↓reduceIte]
  refine call_of (inactive_good d hf) ?_
  set_option maxRecDepth 100000 in simp (maxSteps := 10000000) only [go_sem, Nat.reduceAdd, Nat.reduceSub, Nat.reduceMul, Nat.reduceLT, Nat.reduceLeDiff, Nat.reduceEqDiff, Nat.reduceMod, Nat.reduceDiv, Int.reduceNeg, Int.reduceLE, Int.reduceLT, Int.reduceToNat, Int.reduceEq, Int.reduceNe, ↓reduceIte,  hi]
  refine callM_of [] [19, 30, 31] (how) ⟨rfl, rfl, rfl, by simp, by simp, by simp, by simp, rfl, rfl, rfl, onodup_of (l := [6, 12, 13]) rfl (by decide)⟩ ?_
  set_option maxRecDepth 100000 in simp (maxSteps := 10000000) only [go_sem, Nat.reduceAdd, Nat.reduceSub, Nat.reduceMul, Nat.reduceLT, Nat.reduceLeDiff, Nat.reduceEqDiff, Nat.reduceMod, Nat.reduceDiv, Int.reduceNeg, Int.reduceLE, Int.reduceLT, Int.reduceToNat, Int.reduceEq, Int.reduceNe, ↓reduceIte]
  refine loop_by ([6, 7, 23, 24, 25, 26, 27, 28, 29, 30, 31, 32, 33, 34, 35, 36, 37, 38, 39, 40, 41, 42, 43, 44, 45, 46, 47, 48, 49, 50, 51, 52, 53, 54, 55, 56, 57, 58, 59, 60, 61, 62, 63, 64, 65, 66], []) (fun s : Nat => [(.s 22, .int .i64 (s : Int)), (.o 31, .obj 1 9 1 false true (mirRow d s))]) (fun s => d.sz - s) (fun s => s ≤ d.sz) 0 rfl (Nat.zero_le _) ?_ ?_
  · set_option maxRecDepth 100000 in simp (maxSteps := 10000000) only [go_sem, Nat.reduceAdd, Nat.reduceSub, Nat.reduceMul, Nat.reduceLT, Nat.reduceLeDiff, Nat.reduceEqDiff, Nat.reduceMod, Nat.reduceDiv, Int.reduceNeg, Int.reduceLE, Int.reduceLT, Int.reduceToNat, Int.reduceEq, Int.reduceNe, ↓reduceIte,  hrz]
  rintro c' st' hst' s hs ih
  set_option maxRecDepth 100000 in simp (maxSteps := 10000000) only [go_sem, Nat.reduceAdd, Nat.reduceSub, Nat.reduceMul, Nat.reduceLT, Nat.reduceLeDiff, Nat.reduceEqDiff, Nat.reduceMod, Nat.reduceDiv, Int.reduceNeg, Int.reduceLE, Int.reduceLT, Int.reduceToNat, Int.reduceEq, Int.reduceNe, ↓reduceIte]
  refine ifI (fun hlt => ?_) fun hlt => ?_
  case refine_2 =>
    have hss : s = d.sz := by omega
    subst hst' hss
    set_option maxRecDepth 100000 in simp (maxSteps := 10000000) only [go_sem, Nat.reduceAdd, Nat.reduceSub, Nat.reduceMul, Nat.reduceLT, Nat.reduceLeDiff, Nat.reduceEqDiff, Nat.reduceMod, Nat.reduceDiv, Int.reduceNeg, Int.reduceLE, Int.reduceLT, Int.reduceToNat, Int.reduceEq, Int.reduceNe, ↓reduceIte,  hlt]
  have hs2 : s < d.sz := by omega
  have hs3 : (s : Int) < (d.sz : Int) := by omega
  obtain ⟨b, hb⟩ := mirRow_at hs2
  have h0s := row_str l0 hs2
  set_option maxRecDepth 100000 in simp (maxSteps := 10000000) only [go_sem, Nat.reduceAdd, Nat.reduceSub, Nat.reduceMul, Nat.reduceLT, Nat.reduceLeDiff, Nat.reduceEqDiff, Nat.reduceMod, Nat.reduceDiv, Int.reduceNeg, Int.reduceLE, Int.reduceLT, Int.reduceToNat, Int.reduceEq, Int.reduceNe, ↓reduceIte,  hlt, k1, decide_true, hs2, hs3, mirRow_len, l0, h0s, hb]
  refine ⟨by decide +kernel, ?_⟩
  refine ih (s + 1) _ (by omega) (by omega) ?_
  set_option maxRecDepth 100000 in simp (maxSteps := 10000000) only [go_sem, Nat.reduceAdd, Nat.reduceSub, Nat.reduceMul, Nat.reduceLT, Nat.reduceLeDiff, Nat.reduceEqDiff, Nat.reduceMod, Nat.reduceDiv, Int.reduceNeg, Int.reduceLE, Int.reduceLT, Int.reduceToNat, Int.reduceEq, Int.reduceNe, ↓reduceIte,  wrap_succ (show s < 9223372036854775807 by omega), mirRow_succ hs2]
set_option maxHeartbeats 8000000 in
theorem Sync_3 (d : Disk) (hf : FitD d) (hW : Whole d) (hn : d.n = 3) (hk : d.kind = 2) : Ans Try.prog 28 [.agg (encDisk d)] (.tup [.agg (encDisk d.synced), .int .i64 0]) := by
  have hO := hW.okd
  have hz := hO.sz10
  have hde := diskErr_good d hf
  rw [hO.zero] at hde
  have hi := idle_whole hW
  have k1 : (d.kind = 1) = False := eq_false (by omega)
  have k2 : (d.kind = 2) = True := eq_true (by omega)
  have hlens : ∀ j, j < d.n → (d.at j).secs.length ≤ 1000000 := fun j hj => by have := hf.m _ (nth_mem (l := d.units) hj); exact Nat.le_trans this (by decide)
  have how := owned_3 d.kind d.size (d.at 0) (d.at 1) (d.at 2) (hlens 0 (by omega)) (hlens 1 (by omega)) (hlens 2 (by omega))
  have hdd := units_3 hn
  rw [← hdd] at how
  have hR : List.range d.n = [0, 1, 2] := by rw [hn]; rfl
  have hP : ∀ s, AV.agg (encDisk (synD d s)) = .agg [.int .i64 d.kind, .int .i64 d.size, .sl [[.int .i64 (d.at 0).state, .sl (synRow d s 0)], [.int .i64 (d.at 1).state, .sl (synRow d s 1)], [.int .i64 (d.at 2).state, .sl (synRow d s 2)]]] := fun s => by
    unfold synD
    rw [hR]
    rfl
  have hE : AV.agg (encDisk d.synced) = .agg [.int .i64 d.kind, .int .i64 d.size, .sl [[.int .i64 (d.at 0).state, .sl (synRow d d.sz 0)], [.int .i64 (d.at 1).state, .sl (synRow d d.sz 1)], [.int .i64 (d.at 2).state, .sl (synRow d d.sz 2)]]] := by
    rw [synced_D hk, hP]
  have z0 := synRow_zero (hW.len 0 (by omega))
  have z1 := synRow_zero (hW.len 1 (by omega))
  have z2 := synRow_zero (hW.len 2 (by omega))
  rw [hE]
  refine good_run [(3000017, [], [103000000000000001000019, 103000000000000001001019, 103000000000000001002019, 103000000000000001003019, 103000000000000001004019, 101000000000000000000019]), (8, [6, 7, 23, 24, 25, 26, 27, 28, 29, 30, 31, 32, 33, 34, 35, 36, 37, 38, 39, 40, 41, 42, 43, 44, 45, 46, 47, 48, 49, 50, 51, 52, 53, 54, 55, 56, 57, 58, 59, 60, 61, 62, 63, 64, 65, 66], [])] mixed Try.func28 rfl Try.ntmps28 (rs := [.cell 2 24, .tmp 3]) rfl (by decide +kernel) (by kernel_rfl) rfl ?_
  rw [startE_eq 68 _ _ _ rfl rfl]
  set_option maxRecDepth 100000 in simp (maxSteps := 10000000) only [go_sem, Nat.reduceAdd, Nat.reduceSub, Nat.reduceMul, Nat.reduceLT, Nat.reduceLeDiff, Nat.reduceEqDiff, Nat.reduceMod, Nat.reduceDiv, Int.reduceNeg, Int.reduceLE, Int.reduceLT, Int.reduceToNat, Int.reduceEq, Int.reduceNe, ↓reduceIte]
  refine call_of (hde) ?_
  set_option maxRecDepth 100000 in simp (maxSteps := 10000000) only [go_sem, Nat.reduceAdd, Nat.reduceSub, Nat.reduceMul, Nat.reduceLT, Nat.reduceLeDiff, Nat.reduceEqDiff, Nat.reduceMod, Nat.reduceDiv, Int.reduceNeg, Int.reduceLE, Int.reduceLT, Int.reduceToNat, Int.reduceEq, Int.reduceNe, ↓reduceIte]
  refine call_of (inactive_good d hf) ?_
  set_option maxRecDepth 100000 in simp (maxSteps := 10000000) only [go_sem, Nat.reduceAdd, Nat.reduceSub, Nat.reduceMul, Nat.reduceLT, Nat.reduceLeDiff, Nat.reduceEqDiff, Nat.reduceMod, Nat.reduceDiv, Int.reduceNeg, Int.reduceLE, Int.reduceLT, Int.reduceToNat, Int.reduceEq, Int.reduceNe, ↓reduceIte,  hi]
  refine callM_of [] [19, 30, 31, 32] (how) ⟨rfl, rfl, rfl, by simp, by simp, by simp, by simp, rfl, rfl, rfl, onodup_of (l := [6, 12, 13, 14]) rfl (by decide)⟩ ?_
  set_option maxRecDepth 100000 in simp (maxSteps := 10000000) only [go_sem, Nat.reduceAdd, Nat.reduceSub, Nat.reduceMul, Nat.reduceLT, Nat.reduceLeDiff, Nat.reduceEqDiff, Nat.reduceMod, Nat.reduceDiv, Int.reduceNeg, Int.reduceLE, Int.reduceLT, Int.reduceToNat, Int.reduceEq, Int.reduceNe, ↓reduceIte]
  refine loop_by ([6, 7, 23, 24, 25, 26, 27, 28, 29, 30, 31, 32, 33, 34, 35, 36, 37, 38, 39, 40, 41, 42, 43, 44, 45, 46, 47, 48, 49, 50, 51, 52, 53, 54, 55, 56, 57, 58, 59, 60, 61, 62, 63, 64, 65, 66], []) (fun s : Nat => [(.s 22, .int .i64 (s : Int)), (.o 30, .obj 1 9 1 false true (synRow d s 0)), (.o 31, .obj 1 9 1 false true (synRow d s 1)), (.o 32, .obj 1 9 1 false true (synRow d s 2))]) (fun s => d.sz - s) (fun s => s ≤ d.sz) 0 rfl (Nat.zero_le _) ?_ ?_
  · set_option maxRecDepth 100000 in simp (maxSteps := 10000000) only [go_sem, Nat.reduceAdd, Nat.reduceSub, Nat.reduceMul, Nat.reduceLT, Nat.reduceLeDiff, Nat.reduceEqDiff, Nat.reduceMod, Nat.reduceDiv, Int.reduceNeg, Int.reduceLE, Int.reduceLT, Int.reduceToNat, Int.reduceEq, Int.reduceNe, ↓reduceIte,  z0, z1, z2]
  rintro c' st' hst' s hs ih
  set_option maxRecDepth 100000 in simp (maxSteps := 10000000) only [go_sem, Nat.reduceAdd, Nat.reduceSub, Nat.reduceMul, Nat.reduceLT, Nat.reduceLeDiff, Nat.reduceEqDiff, Nat.reduceMod, Nat.reduceDiv, Int.reduceNeg, Int.reduceLE, Int.reduceLT, Int.reduceToNat, Int.reduceEq, Int.reduceNe, ↓reduceIte]
  refine ifI (fun hlt => ?_) fun hlt => ?_
  case refine_2 =>
    have hss : s = d.sz := by omega
    subst hst' hss
    set_option maxRecDepth 100000 in simp (maxSteps := 10000000) only [go_sem, Nat.reduceAdd, Nat.reduceSub, Nat.reduceMul, Nat.reduceLT, Nat.reduceLeDiff, Nat.reduceEqDiff, Nat.reduceMod, Nat.reduceDiv, Int.reduceNeg, Int.reduceLE, Int.reduceLT, Int.reduceToNat, Int.reduceEq, Int.reduceNe, ↓reduceIte,  hlt]
  have hs2 : s < d.sz := by omega
  have hs3 : (s : Int) < (d.sz : Int) := by omega
  have hmod : Int.tmod (s : Int) 3 = ((s % 3 : Nat) : Int) := rfl
  have hsn : s % d.n = s % 3 := by rw [hn]
  have hul : (d.units.length : Int) = 3 := by have : d.units.length = 3 := hn; omega
  have hcs : s % 3 = 0 ∨ s % 3 = 1 ∨ s % 3 = 2 := by omega
  rcases hcs with hp | hp | hp
  · have hpn : s % d.n = 0 := hsn.trans hp
    have hm : Int.tmod (s : Int) 3 = 0 := by rw [hmod, hp]; rfl
    have hot := others_good (synD d s) (synD_whole hW s).okd 0 s hs2
    rw [synD_others hW hs2, hP] at hot
    obtain ⟨b, hb⟩ := synRow_at d s 0 hs2
    set_option maxRecDepth 100000 in simp (maxSteps := 10000000) only [go_sem, Nat.reduceAdd, Nat.reduceSub, Nat.reduceMul, Nat.reduceLT, Nat.reduceLeDiff, Nat.reduceEqDiff, Nat.reduceMod, Nat.reduceDiv, Int.reduceNeg, Int.reduceLE, Int.reduceLT, Int.reduceToNat, Int.reduceEq, Int.reduceNe, ↓reduceIte,  hlt, k1, k2, decide_false, decide_true, hul, hm]
    refine callVD_of (hot) (by set_option maxRecDepth 100000 in simp (maxSteps := 10000000) only [go_sem, Nat.reduceAdd, Nat.reduceSub, Nat.reduceMul, Nat.reduceLT, Nat.reduceLeDiff, Nat.reduceEqDiff, Nat.reduceMod, Nat.reduceDiv, Int.reduceNeg, Int.reduceLE, Int.reduceLT, Int.reduceToNat, Int.reduceEq, Int.reduceNe, ↓reduceIte]) (by set_option maxRecDepth 100000 in simp (maxSteps := 10000000) only [go_sem, Nat.reduceAdd, Nat.reduceSub, Nat.reduceMul, Nat.reduceLT, Nat.reduceLeDiff, Nat.reduceEqDiff, Nat.reduceMod, Nat.reduceDiv, Int.reduceNeg, Int.reduceLE, Int.reduceLT, Int.reduceToNat, Int.reduceEq, Int.reduceNe, ↓reduceIte]) rfl ?_
    set_option maxRecDepth 100000 in simp (maxSteps := 10000000) only [go_sem, Nat.reduceAdd, Nat.reduceSub, Nat.reduceMul, Nat.reduceLT, Nat.reduceLeDiff, Nat.reduceEqDiff, Nat.reduceMod, Nat.reduceDiv, Int.reduceNeg, Int.reduceLE, Int.reduceLT, Int.reduceToNat, Int.reduceEq, Int.reduceNe, ↓reduceIte,  hs2, hs3, synRow_len, hb]
    refine ⟨by decide +kernel, ?_⟩
    refine ih (s + 1) _ (by omega) (by omega) ?_
    set_option maxRecDepth 100000 in simp (maxSteps := 10000000) only [go_sem, Nat.reduceAdd, Nat.reduceSub, Nat.reduceMul, Nat.reduceLT, Nat.reduceLeDiff, Nat.reduceEqDiff, Nat.reduceMod, Nat.reduceDiv, Int.reduceNeg, Int.reduceLE, Int.reduceLT, Int.reduceToNat, Int.reduceEq, Int.reduceNe, ↓reduceIte,  wrap_succ (show s < 9223372036854775807 by omega), synRow_other (j := 1) (show ¬ s % d.n = 1 by omega), synRow_other (j := 2) (show ¬ s % d.n = 2 by omega), synRow_set hpn hs2]
  · have hpn : s % d.n = 1 := hsn.trans hp
    have hm : Int.tmod (s : Int) 3 = 1 := by rw [hmod, hp]; rfl
    have hot := others_good (synD d s) (synD_whole hW s).okd 1 s hs2
    rw [synD_others hW hs2, hP] at hot
    obtain ⟨b, hb⟩ := synRow_at d s 1 hs2
    set_option maxRecDepth 100000 in simp (maxSteps := 10000000) only [go_sem, Nat.reduceAdd, Nat.reduceSub, Nat.reduceMul, Nat.reduceLT, Nat.reduceLeDiff, Nat.reduceEqDiff, Nat.reduceMod, Nat.reduceDiv, Int.reduceNeg, Int.reduceLE, Int.reduceLT, Int.reduceToNat, Int.reduceEq, Int.reduceNe, ↓reduceIte,  hlt, k1, k2, decide_false, decide_true, hul, hm]
    refine callVD_of (hot) (by set_option maxRecDepth 100000 in simp (maxSteps := 10000000) only [go_sem, Nat.reduceAdd, Nat.reduceSub, Nat.reduceMul, Nat.reduceLT, Nat.reduceLeDiff, Nat.reduceEqDiff, Nat.reduceMod, Nat.reduceDiv, Int.reduceNeg, Int.reduceLE, Int.reduceLT, Int.reduceToNat, Int.reduceEq, Int.reduceNe, ↓reduceIte]) (by set_option maxRecDepth 100000 in simp (maxSteps := 10000000) only [go_sem, Nat.reduceAdd, Nat.reduceSub, Nat.reduceMul, Nat.reduceLT, Nat.reduceLeDiff, Nat.reduceEqDiff, Nat.reduceMod, Nat.reduceDiv, Int.reduceNeg, Int.reduceLE, Int.reduceLT, Int.reduceToNat, Int.reduceEq, Int.reduceNe, ↓reduceIte]) rfl ?_
    set_option maxRecDepth 100000 in simp (maxSteps := 10000000) only [go_sem, Nat.reduceAdd, Nat.reduceSub, Nat.reduceMul, Nat.reduceLT, Nat.reduceLeDiff, Nat.reduceEqDiff, Nat.reduceMod, Nat.reduceDiv, Int.reduceNeg, Int.reduceLE, Int.reduceLT, Int.reduceToNat, Int.reduceEq, Int.reduceNe, ↓reduceIte,  hs2, hs3, synRow_len, hb]
    refine ⟨by decide +kernel, ?_⟩
    refine ih (s + 1) _ (by omega) (by omega) ?_
    set_option maxRecDepth 100000 in simp (maxSteps := 10000000) only [go_sem, Nat.reduceAdd, Nat.reduceSub, Nat.reduceMul, Nat.reduceLT, Nat.reduceLeDiff, Nat.reduceEqDiff, Nat.reduceMod, Nat.reduceDiv, Int.reduceNeg, Int.reduceLE, Int.reduceLT, Int.reduceToNat, Int.reduceEq, Int.reduceNe, ↓reduceIte,  wrap_succ (show s < 9223372036854775807 by omega), synRow_other (j := 0) (show ¬ s % d.n = 0 by omega), synRow_other (j := 2) (show ¬ s % d.n = 2 by omega), synRow_set hpn hs2]
  · have hpn : s % d.n = 2 := hsn.trans hp
    have hm : Int.tmod (s : Int) 3 = 2 := by rw [hmod, hp]; rfl
    have hot := others_good (synD d s) (synD_whole hW s).okd 2 s hs2
    rw [synD_others hW hs2, hP] at hot
    obtain ⟨b, hb⟩ := synRow_at d s 2 hs2
    set_option maxRecDepth 100000 in simp (maxSteps := 10000000) only [go_sem, Nat.reduceAdd, Nat.reduceSub, Nat.reduceMul, Nat.reduceLT, Nat.reduceLeDiff, Nat.reduceEqDiff, Nat.reduceMod, Nat.reduceDiv, Int.reduceNeg, Int.reduceLE, Int.reduceLT, Int.reduceToNat, Int.reduceEq, Int.reduceNe, ↓reduceIte,  hlt, k1, k2, decide_false, decide_true, hul, hm]
    refine callVD_of (hot) (by set_option maxRecDepth 100000 in simp (maxSteps := 10000000) only [go_sem, Nat.reduceAdd, Nat.reduceSub, Nat.reduceMul, Nat.reduceLT, Nat.reduceLeDiff, Nat.reduceEqDiff, Nat.reduceMod, Nat.reduceDiv, Int.reduceNeg, Int.reduceLE, Int.reduceLT, Int.reduceToNat, Int.reduceEq, Int.reduceNe, ↓reduceIte]) (by set_option maxRecDepth 100000 in simp (maxSteps := 10000000) only [go_sem, Nat.reduceAdd, Nat.reduceSub, Nat.reduceMul, Nat.reduceLT, Nat.reduceLeDiff, Nat.reduceEqDiff, Nat.reduceMod, Nat.reduceDiv, Int.reduceNeg, Int.reduceLE, Int.reduceLT, Int.reduceToNat, Int.reduceEq, Int.reduceNe, ↓reduceIte]) rfl ?_
    set_option maxRecDepth 100000 in simp (maxSteps := 10000000) only [go_sem, Nat.reduceAdd, Nat.reduceSub, Nat.reduceMul, Nat.reduceLT, Nat.reduceLeDiff, Nat.reduceEqDiff, Nat.reduceMod, Nat.reduceDiv, Int.reduceNeg, Int.reduceLE, Int.reduceLT, Int.reduceToNat, Int.reduceEq, Int.reduceNe, ↓reduceIte,  hs2, hs3, synRow_len, hb]
    refine ⟨by decide +kernel, ?_⟩
    refine ih (s + 1) _ (by omega) (by omega) ?_
    set_option maxRecDepth 100000 in simp (maxSteps := 10000000) only [go_sem, Nat.reduceAdd, Nat.reduceSub, Nat.reduceMul, Nat.reduceLT, Nat.reduceLeDiff, Nat.reduceEqDiff, Nat.reduceMod, Nat.reduceDiv, Int.reduceNeg, Int.reduceLE, Int.reduceLT, Int.reduceToNat, Int.reduceEq, Int.reduceNe, ↓reduceIte,  wrap_succ (show s < 9223372036854775807 by omega), synRow_other (j := 0) (show ¬ s % d.n = 0 by omega), synRow_other (j := 1) (show ¬ s % d.n = 1 by omega), synRow_set hpn hs2]
set_option maxHeartbeats 8000000 in
theorem Sync_4 (d : Disk) (hf : FitD d) (hW : Whole d) (hn : d.n = 4) (hk : d.kind = 2) : Ans Try.prog 28 [.agg (encDisk d)] (.tup [.agg (encDisk d.synced), .int .i64 0]) := by
  have hO := hW.okd
  have hz := hO.sz10
  have hde := diskErr_good d hf
  rw [hO.zero] at hde
  have hi := idle_whole hW
  have k1 : (d.kind = 1) = False := eq_false (by omega)
  have k2 : (d.kind = 2) = True := eq_true (by omega)
  have hlens : ∀ j, j < d.n → (d.at j).secs.length ≤ 1000000 := fun j hj => by have := hf.m _ (nth_mem (l := d.units) hj); exact Nat.le_trans this (by decide)
  have how := owned_4 d.kind d.size (d.at 0) (d.at 1) (d.at 2) (d.at 3) (hlens 0 (by omega)) (hlens 1 (by omega)) (hlens 2 (by omega)) (hlens 3 (by omega))
  have hdd := units_4 hn
  rw [← hdd] at how
  have hR : List.range d.n = [0, 1, 2, 3] := by rw [hn]; rfl
  have hP : ∀ s, AV.agg (encDisk (synD d s)) = .agg [.int .i64 d.kind, .int .i64 d.size, .sl [[.int .i64 (d.at 0).state, .sl (synRow d s 0)], [.int .i64 (d.at 1).state, .sl (synRow d s 1)], [.int .i64 (d.at 2).state, .sl (synRow d s 2)], [.int .i64 (d.at 3).state, .sl (synRow d s 3)]]] := fun s => by
    unfold synD
    rw [hR]
    rfl
  have hE : AV.agg (encDisk d.synced) = .agg [.int .i64 d.kind, .int .i64 d.size, .sl [[.int .i64 (d.at 0).state, .sl (synRow d d.sz 0)], [.int .i64 (d.at 1).state, .sl (synRow d d.sz 1)], [.int .i64 (d.at 2).state, .sl (synRow d d.sz 2)], [.int .i64 (d.at 3).state, .sl (synRow d d.sz 3)]]] := by
    rw [synced_D hk, hP]
  have z0 := synRow_zero (hW.len 0 (by omega))
  have z1 := synRow_zero (hW.len 1 (by omega))
  have z2 := synRow_zero (hW.len 2 (by omega))
  have z3 := synRow_zero (hW.len 3 (by omega))
  rw [hE]
  refine good_run [(3000017, [], [103000000000000001000019, 103000000000000001001019, 103000000000000001002019, 103000000000000001003019, 103000000000000001004019, 101000000000000000000019]), (8, [6, 7, 23, 24, 25, 26, 27, 28, 29, 30, 31, 32, 33, 34, 35, 36, 37, 38, 39, 40, 41, 42, 43, 44, 45, 46, 47, 48, 49, 50, 51, 52, 53, 54, 55, 56, 57, 58, 59, 60, 61, 62, 63, 64, 65, 66], [])] mixed Try.func28 rfl Try.ntmps28 (rs := [.cell 2 24, .tmp 3]) rfl (by decide +kernel) (by kernel_rfl) rfl ?_
  rw [startE_eq 68 _ _ _ rfl rfl]
  set_option maxRecDepth 100000 in simp (maxSteps := 10000000) only [go_sem, Nat.reduceAdd, Nat.reduceSub, Nat.reduceMul, Nat.reduceLT, Nat.reduceLeDiff, Nat.reduceEqDiff, Nat.reduceMod, Nat.reduceDiv, Int.reduceNeg, Int.reduceLE, Int.reduceLT, Int.reduceToNat, Int.reduceEq, Int.reduceNe, ↓reduceIte]
  refine call_of (hde) ?_
  set_option maxRecDepth 100000 in simp (maxSteps := 10000000) only [go_sem, Nat.reduceAdd, Nat.reduceSub, Nat.reduceMul, Nat.reduceLT, Nat.reduceLeDiff, Nat.reduceEqDiff, Nat.reduceMod, Nat.reduceDiv, Int.reduceNeg, Int.reduceLE, Int.reduceLT, Int.reduceToNat, Int.reduceEq, Int.reduceNe, ↓reduceIte]
  refine call_of (inactive_good d hf) ?_
  set_option maxRecDepth 100000 in simp (maxSteps := 10000000) only [go_sem, Nat.reduceAdd, Nat.reduceSub, Nat.reduceMul, Nat.reduceLT, Nat.reduceLeDiff, Nat.reduceEqDiff, Nat.reduceMod, Nat.reduceDiv, Int.reduceNeg, Int.reduceLE, Int.reduceLT, Int.reduceToNat, Int.reduceEq, Int.reduceNe, ↓reduceIte,  hi]
  refine callM_of [] [19, 30, 31, 32, 33] (how) ⟨rfl, rfl, rfl, by simp, by simp, by simp, by simp, rfl, rfl, rfl, onodup_of (l := [6, 12, 13, 14, 15]) rfl (by decide)⟩ ?_
  set_option maxRecDepth 100000 in simp (maxSteps := 10000000) only [go_sem, Nat.reduceAdd, Nat.reduceSub, Nat.reduceMul, Nat.reduceLT, Nat.reduceLeDiff, Nat.reduceEqDiff, Nat.reduceMod, Nat.reduceDiv, Int.reduceNeg, Int.reduceLE, Int.reduceLT, Int.reduceToNat, Int.reduceEq, Int.reduceNe, ↓reduceIte]
  refine loop_by ([6, 7, 23, 24, 25, 26, 27, 28, 29, 30, 31, 32, 33, 34, 35, 36, 37, 38, 39, 40, 41, 42, 43, 44, 45, 46, 47, 48, 49, 50, 51, 52, 53, 54, 55, 56, 57, 58, 59, 60, 61, 62, 63, 64, 65, 66], []) (fun s : Nat => [(.s 22, .int .i64 (s : Int)), (.o 30, .obj 1 9 1 false true (synRow d s 0)), (.o 31, .obj 1 9 1 false true (synRow d s 1)), (.o 32, .obj 1 9 1 false true (synRow d s 2)), (.o 33, .obj 1 9 1 false true (synRow d s 3))]) (fun s => d.sz - s) (fun s => s ≤ d.sz) 0 rfl (Nat.zero_le _) ?_ ?_
  · set_option maxRecDepth 100000 in simp (maxSteps := 10000000) only [go_sem, Nat.reduceAdd, Nat.reduceSub, Nat.reduceMul, Nat.reduceLT, Nat.reduceLeDiff, Nat.reduceEqDiff, Nat.reduceMod, Nat.reduceDiv, Int.reduceNeg, Int.reduceLE, Int.reduceLT, Int.reduceToNat, Int.reduceEq, Int.reduceNe, ↓reduceIte,  z0, z1, z2, z3]
  rintro c' st' hst' s hs ih
  set_option maxRecDepth 100000 in simp (maxSteps := 10000000) only [go_sem, Nat.reduceAdd, Nat.reduceSub, Nat.reduceMul, Nat.reduceLT, Nat.reduceLeDiff, Nat.reduceEqDiff, Nat.reduceMod, Nat.reduceDiv, Int.reduceNeg, Int.reduceLE, Int.reduceLT, Int.reduceToNat, Int.reduceEq, Int.reduceNe, ↓reduceIte]
  refine ifI (fun hlt => ?_) fun hlt => ?_
  case refine_2 =>
    have hss : s = d.sz := by omega
    subst hst' hss
    set_option maxRecDepth 100000 in simp (maxSteps := 10000000) only [go_sem, Nat.reduceAdd, Nat.reduceSub, Nat.reduceMul, Nat.reduceLT, Nat.reduceLeDiff, Nat.reduceEqDiff, Nat.reduceMod, Nat.reduceDiv, Int.reduceNeg, Int.reduceLE, Int.reduceLT, Int.reduceToNat, Int.reduceEq, Int.reduceNe, ↓reduceIte,  hlt]
  have hs2 : s < d.sz := by omega
  have hs3 : (s : Int) < (d.sz : Int) := by omega
  have hmod : Int.tmod (s : Int) 4 = ((s % 4 : Nat) : Int) := rfl
  have hsn : s % d.n = s % 4 := by rw [hn]
  have hul : (d.units.length : Int) = 4 := by have : d.units.length = 4 := hn; omega
  have hcs : s % 4 = 0 ∨ s % 4 = 1 ∨ s % 4 = 2 ∨ s % 4 = 3 := by omega
  rcases hcs with hp | hp | hp | hp
  · have hpn : s % d.n = 0 := hsn.trans hp
    have hm : Int.tmod (s : Int) 4 = 0 := by rw [hmod, hp]; rfl
    have hot := others_good (synD d s) (synD_whole hW s).okd 0 s hs2
    rw [synD_others hW hs2, hP] at hot
    obtain ⟨b, hb⟩ := synRow_at d s 0 hs2
    set_option maxRecDepth 100000 in simp (maxSteps := 10000000) only [go_sem, Nat.reduceAdd, Nat.reduceSub, Nat.reduceMul, Nat.reduceLT, Nat.reduceLeDiff, Nat.reduceEqDiff, Nat.reduceMod, Nat.reduceDiv, Int.reduceNeg, Int.reduceLE, Int.reduceLT, Int.reduceToNat, Int.reduceEq, Int.reduceNe, ↓reduceIte,  hlt, k1, k2, decide_false, decide_true, hul, hm]
    refine callVD_of (hot) (by set_option maxRecDepth 100000 in simp (maxSteps := 10000000) only [go_sem, Nat.reduceAdd, Nat.reduceSub, Nat.reduceMul, Nat.reduceLT, Nat.reduceLeDiff, Nat.reduceEqDiff, Nat.reduceMod, Nat.reduceDiv, Int.reduceNeg, Int.reduceLE, Int.reduceLT, Int.reduceToNat, Int.reduceEq, Int.reduceNe, ↓reduceIte]) (by set_option maxRecDepth 100000 in simp (maxSteps := 10000000) only [go_sem, Nat.reduceAdd, Nat.reduceSub, Nat.reduceMul, Nat.reduceLT, Nat.reduceLeDiff, Nat.reduceEqDiff, Nat.reduceMod, Nat.reduceDiv, Int.reduceNeg, Int.reduceLE, Int.reduceLT, Int.reduceToNat, Int.reduceEq, Int.reduceNe, ↓reduceIte]) rfl ?_
    set_option maxRecDepth 100000 in simp (maxSteps := 10000000) only [go_sem, Nat.reduceAdd, Nat.reduceSub, Nat.reduceMul, Nat.reduceLT, Nat.reduceLeDiff, Nat.reduceEqDiff, Nat.reduceMod, Nat.reduceDiv, Int.reduceNeg, Int.reduceLE, Int.reduceLT, Int.reduceToNat, Int.reduceEq, Int.reduceNe, ↓reduceIte,  hs2, hs3, synRow_len, hb]
    refine ⟨by decide +kernel, ?_⟩
    refine ih (s + 1) _ (by omega) (by omega) ?_
    set_option maxRecDepth 100000 in simp (maxSteps := 10000000) only [go_sem, Nat.reduceAdd, Nat.reduceSub, Nat.reduceMul, Nat.reduceLT, Nat.reduceLeDiff, Nat.reduceEqDiff, Nat.reduceMod, Nat.reduceDiv, Int.reduceNeg, Int.reduceLE, Int.reduceLT, Int.reduceToNat, Int.reduceEq, Int.reduceNe, ↓reduceIte,  wrap_succ (show s < 9223372036854775807 by omega), synRow_other (j := 1) (show ¬ s % d.n = 1 by omega), synRow_other (j := 2) (show ¬ s % d.n = 2 by omega), synRow_other (j := 3) (show ¬ s % d.n = 3 by omega), synRow_set hpn hs2]
  · have hpn : s % d.n = 1 := hsn.trans hp
    have hm : Int.tmod (s : Int) 4 = 1 := by rw [hmod, hp]; rfl
    have hot := others_good (synD d s) (synD_whole hW s).okd 1 s hs2
    rw [synD_others hW hs2, hP] at hot
    obtain ⟨b, hb⟩ := synRow_at d s 1 hs2
    set_option maxRecDepth 100000 in simp (maxSteps := 10000000) only [go_sem, Nat.reduceAdd, Nat.reduceSub, Nat.reduceMul, Nat.reduceLT, Nat.reduceLeDiff, Nat.reduceEqDiff, Nat.reduceMod, Nat.reduceDiv, Int.reduceNeg, Int.reduceLE, Int.reduceLT, Int.reduceToNat, Int.reduceEq, Int.reduceNe, ↓reduceIte,  hlt, k1, k2, decide_false, decide_true, hul, hm]
    refine callVD_of (hot) (by set_option maxRecDepth 100000 in simp (maxSteps := 10000000) only [go_sem, Nat.reduceAdd, Nat.reduceSub, Nat.reduceMul, Nat.reduceLT, Nat.reduceLeDiff, Nat.reduceEqDiff, Nat.reduceMod, Nat.reduceDiv, Int.reduceNeg, Int.reduceLE, Int.reduceLT, Int.reduceToNat, Int.reduceEq, Int.reduceNe, ↓reduceIte]) (by set_option maxRecDepth 100000 in simp (maxSteps := 10000000) only [go_sem, Nat.reduceAdd, Nat.reduceSub, Nat.reduceMul, Nat.reduceLT, Nat.reduceLeDiff, Nat.reduceEqDiff, Nat.reduceMod, Nat.reduceDiv, Int.reduceNeg, Int.reduceLE, Int.reduceLT, Int.reduceToNat, Int.reduceEq, Int.reduceNe, ↓reduceIte]) rfl ?_
    set_option maxRecDepth 100000 in simp (maxSteps := 10000000) only [go_sem, Nat.reduceAdd, Nat.reduceSub, Nat.reduceMul, Nat.reduceLT, Nat.reduceLeDiff, Nat.reduceEqDiff, Nat.reduceMod, Nat.reduceDiv, Int.reduceNeg, Int.reduceLE, Int.reduceLT, Int.reduceToNat, Int.reduceEq, Int.reduceNe, ↓reduceIte,  hs2, hs3, synRow_len, hb]
    refine ⟨by decide +kernel, ?_⟩
    refine ih (s + 1) _ (by omega) (by omega) ?_
    set_option maxRecDepth 100000 in simp (maxSteps := 10000000) only [go_sem, Nat.reduceAdd, Nat.reduceSub, Nat.reduceMul, Nat.reduceLT, Nat.reduceLeDiff, Nat.reduceEqDiff, Nat.reduceMod, Nat.reduceDiv, Int.reduceNeg, Int.reduceLE, Int.reduceLT, Int.reduceToNat, Int.reduceEq, Int.reduceNe, ↓reduceIte,  wrap_succ (show s < 9223372036854775807 by omega), synRow_other (j := 0) (show ¬ s % d.n = 0 by omega), synRow_other (j := 2) (show ¬ s % d.n = 2 by omega), synRow_other (j := 3) (show ¬ s % d.n = 3 by omega), synRow_set hpn hs2]
  · have hpn : s % d.n = 2 := hsn.trans hp
    have hm : Int.tmod (s : Int) 4 = 2 := by rw [hmod, hp]; rfl
    have hot := others_good (synD d s) (synD_whole hW s).okd 2 s hs2
    rw [synD_others hW hs2, hP] at hot
    obtain ⟨b, hb⟩ := synRow_at d s 2 hs2
    set_option maxRecDepth 100000 in simp (maxSteps := 10000000) only [go_sem, Nat.reduceAdd, Nat.reduceSub, Nat.reduceMul, Nat.reduceLT, Nat.reduceLeDiff, Nat.reduceEqDiff, Nat.reduceMod, Nat.reduceDiv, Int.reduceNeg, Int.reduceLE, Int.reduceLT, Int.reduceToNat, Int.reduceEq, Int.reduceNe, ↓reduceIte,  hlt, k1, k2, decide_false, decide_true, hul, hm]
    refine callVD_of (hot) (by set_option maxRecDepth 100000 in simp (maxSteps := 10000000) only [go_sem, Nat.reduceAdd, Nat.reduceSub, Nat.reduceMul, Nat.reduceLT, Nat.reduceLeDiff, Nat.reduceEqDiff, Nat.reduceMod, Nat.reduceDiv, Int.reduceNeg, Int.reduceLE, Int.reduceLT, Int.reduceToNat, Int.reduceEq, Int.reduceNe, ↓reduceIte]) (by set_option maxRecDepth 100000 in simp (maxSteps := 10000000) only [go_sem, Nat.reduceAdd, Nat.reduceSub, Nat.reduceMul, Nat.reduceLT, Nat.reduceLeDiff, Nat.reduceEqDiff, Nat.reduceMod, Nat.reduceDiv, Int.reduceNeg, Int.reduceLE, Int.reduceLT, Int.reduceToNat, Int.reduceEq, Int.reduceNe, ↓reduceIte]) rfl ?_
    set_option maxRecDepth 100000 in simp (maxSteps := 10000000) only [go_sem, Nat.reduceAdd, Nat.reduceSub, Nat.reduceMul, Nat.reduceLT, Nat.reduceLeDiff, Nat.reduceEqDiff, Nat.reduceMod, Nat.reduceDiv, Int.reduceNeg, Int.reduceLE, Int.reduceLT, Int.reduceToNat, Int.reduceEq, Int.reduceNe, ↓reduceIte,  hs2, hs3, synRow_len, hb]
    refine ⟨by decide +kernel, ?_⟩
    refine ih (s + 1) _ (by omega) (by omega) ?_
    set_option maxRecDepth 100000 in simp (maxSteps := 10000000) only [go_sem, Nat.reduceAdd, Nat.reduceSub, Nat.reduceMul, Nat.reduceLT, Nat.reduceLeDiff, Nat.reduceEqDiff, Nat.reduceMod, Nat.reduceDiv, Int.reduceNeg, Int.reduceLE, Int.reduceLT, Int.reduceToNat, Int.reduceEq, Int.reduceNe, ↓reduceIte,  wrap_succ (show s < 9223372036854775807 by omega), synRow_other (j := 0) (show ¬ s % d.n = 0 by omega), synRow_other (j := 1) (show ¬ s % d.n = 1 by omega), synRow_other (j := 3) (show ¬ s % d.n = 3 by omega), synRow_set hpn hs2]
  · have hpn : s % d.n = 3 := hsn.trans hp
    have hm : Int.tmod (s : Int) 4 = 3 := by rw [hmod, hp]; rfl
    have hot := others_good (synD d s) (synD_whole hW s).okd 3 s hs2
    rw [synD_others hW hs2, hP] at hot
    obtain ⟨b, hb⟩ := synRow_at d s 3 hs2
    set_option maxRecDepth 100000 in simp (maxSteps := 10000000) only [go_sem, Nat.reduceAdd, Nat.reduceSub, Nat.reduceMul, Nat.reduceLT, Nat.reduceLeDiff, Nat.reduceEqDiff, Nat.reduceMod, Nat.reduceDiv, Int.reduceNeg, Int.reduceLE, Int.reduceLT, Int.reduceToNat, Int.reduceEq, Int.reduceNe, ↓reduceIte,  hlt, k1, k2, decide_false, decide_true, hul, hm]
    refine callVD_of (hot) (by set_option maxRecDepth 100000 in simp (maxSteps := 10000000) only [go_sem, Nat.reduceAdd, Nat.reduceSub, Nat.reduceMul, Nat.reduceLT, Nat.reduceLeDiff, Nat.reduceEqDiff, Nat.reduceMod, Nat.reduceDiv, Int.reduceNeg, Int.reduceLE, Int.reduceLT, Int.reduceToNat, Int.reduceEq, Int.reduceNe, ↓reduceIte]) (by set_option maxRecDepth 100000 in simp (maxSteps := 10000000) only [go_sem, Nat.reduceAdd, Nat.reduceSub, Nat.reduceMul, Nat.reduceLT, Nat.reduceLeDiff, Nat.reduceEqDiff, Nat.reduceMod, Nat.reduceDiv, Int.reduceNeg, Int.reduceLE, Int.reduceLT, Int.reduceToNat, Int.reduceEq, Int.reduceNe, ↓reduceIte]) rfl ?_
    set_option maxRecDepth 100000 in simp (maxSteps := 10000000) only [go_sem, Nat.reduceAdd, Nat.reduceSub, Nat.reduceMul, Nat.reduceLT, Nat.reduceLeDiff, Nat.reduceEqDiff, Nat.reduceMod, Nat.reduceDiv, Int.reduceNeg, Int.reduceLE, Int.reduceLT, Int.reduceToNat, Int.reduceEq, Int.reduceNe, ↓reduceIte,  hs2, hs3, synRow_len, hb]
    refine ⟨by decide +kernel, ?_⟩
    refine ih (s + 1) _ (by omega) (by omega) ?_
    set_option maxRecDepth 100000 in simp (maxSteps := 10000000) only [go_sem, Nat.reduceAdd, Nat.reduceSub, Nat.reduceMul, Nat.reduceLT, Nat.reduceLeDiff, Nat.reduceEqDiff, Nat.reduceMod, Nat.reduceDiv, Int.reduceNeg, Int.reduceLE, Int.reduceLT, Int.reduceToNat, Int.reduceEq, Int.reduceNe, ↓reduceIte,  wrap_succ (show s < 9223372036854775807 by omega), synRow_other (j := 0) (show ¬ s % d.n = 0 by omega), synRow_other (j := 1) (show ¬ s % d.n = 1 by omega), synRow_other (j := 2) (show ¬ s % d.n = 2 by omega), synRow_set hpn hs2]
set_option maxHeartbeats 8000000 in
theorem Sync_5 (d : Disk) (hf : FitD d) (hW : Whole d) (hn : d.n = 5) (hk : d.kind = 2) : Ans Try.prog 28 [.agg (encDisk d)] (.tup [.agg (encDisk d.synced), .int .i64 0]) := by
  have hO := hW.okd
  have hz := hO.sz10
  have hde := diskErr_good d hf
  rw [hO.zero] at hde
  have hi := idle_whole hW
  have k1 : (d.kind = 1) = False := eq_false (by omega)
  have k2 : (d.kind = 2) = True := eq_true (by omega)
  have hlens : ∀ j, j < d.n → (d.at j).secs.length ≤ 1000000 := fun j hj => by have := hf.m _ (nth_mem (l := d.units) hj); exact Nat.le_trans this (by decide)
  have how := owned_5 d.kind d.size (d.at 0) (d.at 1) (d.at 2) (d.at 3) (d.at 4) (hlens 0 (by omega)) (hlens 1 (by omega)) (hlens 2 (by omega)) (hlens 3 (by omega)) (hlens 4 (by omega))
  have hdd := units_5 hn
  rw [← hdd] at how
  have hR : List.range d.n = [0, 1, 2, 3, 4] := by rw [hn]; rfl
  have hP : ∀ s, AV.agg (encDisk (synD d s)) = .agg [.int .i64 d.kind, .int .i64 d.size, .sl [[.int .i64 (d.at 0).state, .sl (synRow d s 0)], [.int .i64 (d.at 1).state, .sl (synRow d s 1)], [.int .i64 (d.at 2).state, .sl (synRow d s 2)], [.int .i64 (d.at 3).state, .sl (synRow d s 3)], [.int .i64 (d.at 4).state, .sl (synRow d s 4)]]] := fun s => by
    unfold synD
    rw [hR]
    rfl
  have hE : AV.agg (encDisk d.synced) = .agg [.int .i64 d.kind, .int .i64 d.size, .sl [[.int .i64 (d.at 0).state, .sl (synRow d d.sz 0)], [.int .i64 (d.at 1).state, .sl (synRow d d.sz 1)], [.int .i64 (d.at 2).state, .sl (synRow d d.sz 2)], [.int .i64 (d.at 3).state, .sl (synRow d d.sz 3)], [.int .i64 (d.at 4).state, .sl (synRow d d.sz 4)]]] := by
    rw [synced_D hk, hP]
  have z0 := synRow_zero (hW.len 0 (by omega))
  have z1 := synRow_zero (hW.len 1 (by omega))
  have z2 := synRow_zero (hW.len 2 (by omega))
  have z3 := synRow_zero (hW.len 3 (by omega))
  have z4 := synRow_zero (hW.len 4 (by omega))
  rw [hE]
  refine good_run [(3000017, [], [103000000000000001000019, 103000000000000001001019, 103000000000000001002019, 103000000000000001003019, 103000000000000001004019, 101000000000000000000019]), (8, [6, 7, 23, 24, 25, 26, 27, 28, 29, 30, 31, 32, 33, 34, 35, 36, 37, 38, 39, 40, 41, 42, 43, 44, 45, 46, 47, 48, 49, 50, 51, 52, 53, 54, 55, 56, 57, 58, 59, 60, 61, 62, 63, 64, 65, 66], [])] mixed Try.func28 rfl Try.ntmps28 (rs := [.cell 2 24, .tmp 3]) rfl (by decide +kernel) (by kernel_rfl) rfl ?_
  rw [startE_eq 68 _ _ _ rfl rfl]
  set_option maxRecDepth 100000 in simp (maxSteps := 10000000) only [go_sem, Nat.reduceAdd, Nat.reduceSub, Nat.reduceMul, Nat.reduceLT, Nat.reduceLeDiff, Nat.reduceEqDiff, Nat.reduceMod, Nat.reduceDiv, Int.reduceNeg, Int.reduceLE, Int.reduceLT, Int.reduceToNat, Int.reduceEq, Int.reduceNe, ↓reduceIte]
  refine call_of (hde) ?_
  set_option maxRecDepth 100000 in simp (maxSteps := 10000000) only [go_sem, Nat.reduceAdd, Nat.reduceSub, Nat.reduceMul, Nat.reduceLT, Nat.reduceLeDiff, Nat.reduceEqDiff, Nat.reduceMod, Nat.reduceDiv, Int.reduceNeg, Int.reduceLE, Int.reduceLT, Int.reduceToNat, Int.reduceEq, Int.reduceNe, ↓reduceIte]
  refine call_of (inactive_good d hf) ?_
  set_option maxRecDepth 100000 in simp (maxSteps := 10000000) only [go_sem, Nat.reduceAdd, Nat.reduceSub, Nat.reduceMul, Nat.reduceLT, Nat.reduceLeDiff, Nat.reduceEqDiff, Nat.reduceMod, Nat.reduceDiv, Int.reduceNeg, Int.reduceLE, Int.reduceLT, Int.reduceToNat, Int.reduceEq, Int.reduceNe, ↓reduceIte,  hi]
  refine callM_of [] [19, 30, 31, 32, 33, 34] (how) ⟨rfl, rfl, rfl, by simp, by simp, by simp, by simp, rfl, rfl, rfl, onodup_of (l := [6, 12, 13, 14, 15, 16]) rfl (by decide)⟩ ?_
  set_option maxRecDepth 100000 in simp (maxSteps := 10000000) only [go_sem, Nat.reduceAdd, Nat.reduceSub, Nat.reduceMul, Nat.reduceLT, Nat.reduceLeDiff, Nat.reduceEqDiff, Nat.reduceMod, Nat.reduceDiv, Int.reduceNeg, Int.reduceLE, Int.reduceLT, Int.reduceToNat, Int.reduceEq, Int.reduceNe, ↓reduceIte]
  refine loop_by ([6, 7, 23, 24, 25, 26, 27, 28, 29, 30, 31, 32, 33, 34, 35, 36, 37, 38, 39, 40, 41, 42, 43, 44, 45, 46, 47, 48, 49, 50, 51, 52, 53, 54, 55, 56, 57, 58, 59, 60, 61, 62, 63, 64, 65, 66], []) (fun s : Nat => [(.s 22, .int .i64 (s : Int)), (.o 30, .obj 1 9 1 false true (synRow d s 0)), (.o 31, .obj 1 9 1 false true (synRow d s 1)), (.o 32, .obj 1 9 1 false true (synRow d s 2)), (.o 33, .obj 1 9 1 false true (synRow d s 3)), (.o 34, .obj 1 9 1 false true (synRow d s 4))]) (fun s => d.sz - s) (fun s => s ≤ d.sz) 0 rfl (Nat.zero_le _) ?_ ?_
  · set_option maxRecDepth 100000 in simp (maxSteps := 10000000) only [go_sem, Nat.reduceAdd, Nat.reduceSub, Nat.reduceMul, Nat.reduceLT, Nat.reduceLeDiff, Nat.reduceEqDiff, Nat.reduceMod, Nat.reduceDiv, Int.reduceNeg, Int.reduceLE, Int.reduceLT, Int.reduceToNat, Int.reduceEq, Int.reduceNe, ↓reduceIte,  z0, z1, z2, z3, z4]
  rintro c' st' hst' s hs ih
  set_option maxRecDepth 100000 in simp (maxSteps := 10000000) only [go_sem, Nat.reduceAdd, Nat.reduceSub, Nat.reduceMul, Nat.reduceLT, Nat.reduceLeDiff, Nat.reduceEqDiff, Nat.reduceMod, Nat.reduceDiv, Int.reduceNeg, Int.reduceLE, Int.reduceLT, Int.reduceToNat, Int.reduceEq, Int.reduceNe, ↓reduceIte]
  refine ifI (fun hlt => ?_) fun hlt => ?_
  case refine_2 =>
    have hss : s = d.sz := by omega
    subst hst' hss
    set_option maxRecDepth 100000 in simp (maxSteps := 10000000) only [go_sem, Nat.reduceAdd, Nat.reduceSub, Nat.reduceMul, Nat.reduceLT, Nat.reduceLeDiff, Nat.reduceEqDiff, Nat.reduceMod, Nat.reduceDiv, Int.reduceNeg, Int.reduceLE, Int.reduceLT, Int.reduceToNat, Int.reduceEq, Int.reduceNe, ↓reduceIte,  hlt]
  have hs2 : s < d.sz := by omega
  have hs3 : (s : Int) < (d.sz : Int) := by omega
  have hmod : Int.tmod (s : Int) 5 = ((s % 5 : Nat) : Int) := rfl
  have hsn : s % d.n = s % 5 := by rw [hn]
  have hul : (d.units.length : Int) = 5 := by have : d.units.length = 5 := hn; omega
  have hcs : s % 5 = 0 ∨ s % 5 = 1 ∨ s % 5 = 2 ∨ s % 5 = 3 ∨ s % 5 = 4 := by omega
  rcases hcs with hp | hp | hp | hp | hp
  · have hpn : s % d.n = 0 := hsn.trans hp
    have hm : Int.tmod (s : Int) 5 = 0 := by rw [hmod, hp]; rfl
    have hot := others_good (synD d s) (synD_whole hW s).okd 0 s hs2
    rw [synD_others hW hs2, hP] at hot
    obtain ⟨b, hb⟩ := synRow_at d s 0 hs2
    set_option maxRecDepth 100000 in simp (maxSteps := 10000000) only [go_sem, Nat.reduceAdd, Nat.reduceSub, Nat.reduceMul, Nat.reduceLT, Nat.reduceLeDiff, Nat.reduceEqDiff, Nat.reduceMod, Nat.reduceDiv, Int.reduceNeg, Int.reduceLE, Int.reduceLT, Int.reduceToNat, Int.reduceEq, Int.reduceNe, ↓reduceIte,  hlt, k1, k2, decide_false, decide_true, hul, hm]
    refine callVD_of (hot) (by set_option maxRecDepth 100000 in simp (maxSteps := 10000000) only [go_sem, Nat.reduceAdd, Nat.reduceSub, Nat.reduceMul, Nat.reduceLT, Nat.reduceLeDiff, Nat.reduceEqDiff, Nat.reduceMod, Nat.reduceDiv, Int.reduceNeg, Int.reduceLE, Int.reduceLT, Int.reduceToNat, Int.reduceEq, Int.reduceNe, ↓reduceIte]) (by set_option maxRecDepth 100000 in simp (maxSteps := 10000000) only [go_sem, Nat.reduceAdd, Nat.reduceSub, Nat.reduceMul, Nat.reduceLT, Nat.reduceLeDiff, Nat.reduceEqDiff, Nat.reduceMod, Nat.reduceDiv, Int.reduceNeg, Int.reduceLE, Int.reduceLT, Int.reduceToNat, Int.reduceEq, Int.reduceNe, ↓reduceIte]) rfl ?_
    set_option maxRecDepth 100000 in simp (maxSteps := 10000000) only [go_sem, Nat.reduceAdd, Nat.reduceSub, Nat.reduceMul, Nat.reduceLT, Nat.reduceLeDiff, Nat.reduceEqDiff, Nat.reduceMod, Nat.reduceDiv, Int.reduceNeg, Int.reduceLE, Int.reduceLT, Int.reduceToNat, Int.reduceEq, Int.reduceNe, ↓reduceIte,  hs2, hs3, synRow_len, hb]
    refine ⟨by decide +kernel, ?_⟩
    refine ih (s + 1) _ (by omega) (by omega) ?_
    set_option maxRecDepth 100000 in simp (maxSteps := 10000000) only [go_sem, Nat.reduceAdd, Nat.reduceSub, Nat.reduceMul, Nat.reduceLT, Nat.reduceLeDiff, Nat.reduceEqDiff, Nat.reduceMod, Nat.reduceDiv, Int.reduceNeg, Int.reduceLE, Int.reduceLT, Int.reduceToNat, Int.reduceEq, Int.reduceNe, ↓reduceIte,  wrap_succ (show s < 9223372036854775807 by omega), synRow_other (j := 1) (show ¬ s % d.n = 1 by omega), synRow_other (j := 2) (show ¬ s % d.n = 2 by omega), synRow_other (j := 3) (show ¬ s % d.n = 3 by omega), synRow_other (j := 4) (show ¬ s % d.n = 4 by omega), synRow_set hpn hs2]
  · have hpn : s % d.n = 1 := hsn.trans hp
    have hm : Int.tmod (s : Int) 5 = 1 := by rw [hmod, hp]; rfl
    have hot := others_good (synD d s) (synD_whole hW s).okd 1 s hs2
    rw [synD_others hW hs2, hP] at hot
    obtain ⟨b, hb⟩ := synRow_at d s 1 hs2
    set_option maxRecDepth 100000 in simp (maxSteps := 10000000) only [go_sem, Nat.reduceAdd, Nat.reduceSub, Nat.reduceMul, Nat.reduceLT, Nat.reduceLeDiff, Nat.reduceEqDiff, Nat.reduceMod, Nat.reduceDiv, Int.reduceNeg, Int.reduceLE, Int.reduceLT, Int.reduceToNat, Int.reduceEq, Int.reduceNe, ↓reduceIte,  hlt, k1, k2, decide_false, decide_true, hul, hm]
    refine callVD_of (hot) (by set_option maxRecDepth 100000 in simp (maxSteps := 10000000) only [go_sem, Nat.reduceAdd, Nat.reduceSub, Nat.reduceMul, Nat.reduceLT, Nat.reduceLeDiff, Nat.reduceEqDiff, Nat.reduceMod, Nat.reduceDiv, Int.reduceNeg, Int.reduceLE, Int.reduceLT, Int.reduceToNat, Int.reduceEq, Int.reduceNe, ↓reduceIte]) (by set_option maxRecDepth 100000 in simp (maxSteps := 10000000) only [go_sem, Nat.reduceAdd, Nat.reduceSub, Nat.reduceMul, Nat.reduceLT, Nat.reduceLeDiff, Nat.reduceEqDiff, Nat.reduceMod, Nat.reduceDiv, Int.reduceNeg, Int.reduceLE, Int.reduceLT, Int.reduceToNat, Int.reduceEq, Int.reduceNe, ↓reduceIte]) rfl ?_
    set_option maxRecDepth 100000 in simp (maxSteps := 10000000) only [go_sem, Nat.reduceAdd, Nat.reduceSub, Nat.reduceMul, Nat.reduceLT, Nat.reduceLeDiff, Nat.reduceEqDiff, Nat.reduceMod, Nat.reduceDiv, Int.reduceNeg, Int.reduceLE, Int.reduceLT, Int.reduceToNat, Int.reduceEq, Int.reduceNe, ↓reduceIte,  hs2, hs3, synRow_len, hb]
    refine ⟨by decide +kernel, ?_⟩
    refine ih (s + 1) _ (by omega) (by omega) ?_
    set_option maxRecDepth 100000 in simp (maxSteps := 10000000) only [go_sem, Nat.reduceAdd, Nat.reduceSub, Nat.reduceMul, Nat.reduceLT, Nat.reduceLeDiff, Nat.reduceEqDiff, Nat.reduceMod, Nat.reduceDiv, Int.reduceNeg, Int.reduceLE, Int.reduceLT, Int.reduceToNat, Int.reduceEq, Int.reduceNe, ↓reduceIte,  wrap_succ (show s < 9223372036854775807 by omega), synRow_other (j := 0) (show ¬ s % d.n = 0 by omega), synRow_other (j := 2) (show ¬ s % d.n = 2 by omega), synRow_other (j := 3) (show ¬ s % d.n = 3 by omega), synRow_other (j := 4) (show ¬ s % d.n = 4 by omega), synRow_set hpn hs2]
  · have hpn : s % d.n = 2 := hsn.trans hp
    have hm : Int.tmod (s : Int) 5 = 2 := by rw [hmod, hp]; rfl
    have hot := others_good (synD d s) (synD_whole hW s).okd 2 s hs2
    rw [synD_others hW hs2, hP] at hot
    obtain ⟨b, hb⟩ := synRow_at d s 2 hs2
    set_option maxRecDepth 100000 in simp (maxSteps := 10000000) only [go_sem, Nat.reduceAdd, Nat.reduceSub, Nat.reduceMul, Nat.reduceLT, Nat.reduceLeDiff, Nat.reduceEqDiff, Nat.reduceMod, Nat.reduceDiv, Int.reduceNeg, Int.reduceLE, Int.reduceLT, Int.reduceToNat, Int.reduceEq, Int.reduceNe, ↓reduceIte,  hlt, k1, k2, decide_false, decide_true, hul, hm]
    refine callVD_of (hot) (by set_option maxRecDepth 100000 in simp (maxSteps := 10000000) only [go_sem, Nat.reduceAdd, Nat.reduceSub, Nat.reduceMul, Nat.reduceLT, Nat.reduceLeDiff, Nat.reduceEqDiff, Nat.reduceMod, Nat.reduceDiv, Int.reduceNeg, Int.reduceLE, Int.reduceLT, Int.reduceToNat, Int.reduceEq, Int.reduceNe, ↓reduceIte]) (by set_option maxRecDepth 100000 in simp (maxSteps := 10000000) only [go_sem, Nat.reduceAdd, Nat.reduceSub, Nat.reduceMul, Nat.reduceLT, Nat.reduceLeDiff, Nat.reduceEqDiff, Nat.reduceMod, Nat.reduceDiv, Int.reduceNeg, Int.reduceLE, Int.reduceLT, Int.reduceToNat, Int.reduceEq, Int.reduceNe, ↓reduceIte]) rfl ?_
    set_option maxRecDepth 100000 in simp (maxSteps := 10000000) only [go_sem, Nat.reduceAdd, Nat.reduceSub, Nat.reduceMul, Nat.reduceLT, Nat.reduceLeDiff, Nat.reduceEqDiff, Nat.reduceMod, Nat.reduceDiv, Int.reduceNeg, Int.reduceLE, Int.reduceLT, Int.reduceToNat, Int.reduceEq, Int.reduceNe, ↓reduceIte,  hs2, hs3, synRow_len, hb]
    refine ⟨by decide +kernel, ?_⟩
    refine ih (s + 1) _ (by omega) (by omega) ?_
    set_option maxRecDepth 100000 in simp (maxSteps := 10000000) only [go_sem, Nat.reduceAdd, Nat.reduceSub, Nat.reduceMul, Nat.reduceLT, Nat.reduceLeDiff, Nat.reduceEqDiff, Nat.reduceMod, Nat.reduceDiv, Int.reduceNeg, Int.reduceLE, Int.reduceLT, Int.reduceToNat, Int.reduceEq, Int.reduceNe, ↓reduceIte,  wrap_succ (show s < 9223372036854775807 by omega), synRow_other (j := 0) (show ¬ s % d.n = 0 by omega), synRow_other (j := 1) (show ¬ s % d.n = 1 by omega), synRow_other (j := 3) (show ¬ s % d.n = 3 by omega), synRow_other (j := 4) (show ¬ s % d.n = 4 by omega), synRow_set hpn hs2]
  · have hpn : s % d.n = 3 := hsn.trans hp
    have hm : Int.tmod (s : Int) 5 = 3 := by rw [hmod, hp]; rfl
    have hot := others_good (synD d s) (synD_whole hW s).okd 3 s hs2
    rw [synD_others hW hs2, hP] at hot
    obtain ⟨b, hb⟩ := synRow_at d s 3 hs2
    set_option maxRecDepth 100000 in simp (maxSteps := 10000000) only [go_sem, Nat.reduceAdd, Nat.reduceSub, Nat.reduceMul, Nat.reduceLT, Nat.reduceLeDiff, Nat.reduceEqDiff, Nat.reduceMod, Nat.reduceDiv, Int.reduceNeg, Int.reduceLE, Int.reduceLT, Int.reduceToNat, Int.reduceEq, Int.reduceNe, ↓reduceIte,  hlt, k1, k2, decide_false, decide_true, hul, hm]
    refine callVD_of (hot) (by set_option maxRecDepth 100000 in simp (maxSteps := 10000000) only [go_sem, Nat.reduceAdd, Nat.reduceSub, Nat.reduceMul, Nat.reduceLT, Nat.reduceLeDiff, Nat.reduceEqDiff, Nat.reduceMod, Nat.reduceDiv, Int.reduceNeg, Int.reduceLE, Int.reduceLT, Int.reduceToNat, Int.reduceEq, Int.reduceNe, ↓reduceIte]) (by set_option maxRecDepth 100000 in simp (maxSteps := 10000000) only [go_sem, Nat.reduceAdd, Nat.reduceSub, Nat.reduceMul, Nat.reduceLT, Nat.reduceLeDiff, Nat.reduceEqDiff, Nat.reduceMod, Nat.reduceDiv, Int.reduceNeg, Int.reduceLE, Int.reduceLT, Int.reduceToNat, Int.reduceEq, Int.reduceNe, ↓reduceIte]) rfl ?_
    set_option maxRecDepth 100000 in simp (maxSteps := 10000000) only [go_sem, Nat.reduceAdd, Nat.reduceSub, Nat.reduceMul, Nat.reduceLT, Nat.reduceLeDiff, Nat.reduceEqDiff, Nat.reduceMod, Nat.reduceDiv, Int.reduceNeg, Int.reduceLE, Int.reduceLT, Int.reduceToNat, Int.reduceEq, Int.reduceNe, ↓reduceIte,  hs2, hs3, synRow_len, hb]
    refine ⟨by decide +kernel, ?_⟩
    refine ih (s + 1) _ (by omega) (by omega) ?_
    set_option maxRecDepth 100000 in simp (maxSteps := 10000000) only [go_sem, Nat.reduceAdd, Nat.reduceSub, Nat.reduceMul, Nat.reduceLT, Nat.reduceLeDiff, Nat.reduceEqDiff, Nat.reduceMod, Nat.reduceDiv, Int.reduceNeg, Int.reduceLE, Int.reduceLT, Int.reduceToNat, Int.reduceEq, Int.reduceNe, ↓reduceIte,  wrap_succ (show s < 9223372036854775807 by omega), synRow_other (j := 0) (show ¬ s % d.n = 0 by omega), synRow_other (j := 1) (show ¬ s % d.n = 1 by omega), synRow_other (j := 2) (show ¬ s % d.n = 2 by omega), synRow_other (j := 4) (show ¬ s % d.n = 4 by omega), synRow_set hpn hs2]
  · have hpn : s % d.n = 4 := hsn.trans hp
    have hm : Int.tmod (s : Int) 5 = 4 := by rw [hmod, hp]; rfl
    have hot := others_good (synD d s) (synD_whole hW s).okd 4 s hs2
    rw [synD_others hW hs2, hP] at hot
    obtain ⟨b, hb⟩ := synRow_at d s 4 hs2
    set_option maxRecDepth 100000 in simp (maxSteps := 10000000) only [go_sem, Nat.reduceAdd, Nat.reduceSub, Nat.reduceMul, Nat.reduceLT, Nat.reduceLeDiff, Nat.reduceEqDiff, Nat.reduceMod, Nat.reduceDiv, Int.reduceNeg, Int.reduceLE, Int.reduceLT, Int.reduceToNat, Int.reduceEq, Int.reduceNe, ↓reduceIte,  hlt, k1, k2, decide_false, decide_true, hul, hm]
    refine callVD_of (hot) (by set_option maxRecDepth 100000 in simp (maxSteps := 10000000) only [go_sem, Nat.reduceAdd, Nat.reduceSub, Nat.reduceMul, Nat.reduceLT, Nat.reduceLeDiff, Nat.reduceEqDiff, Nat.reduceMod, Nat.reduceDiv, Int.reduceNeg, Int.reduceLE, Int.reduceLT, Int.reduceToNat, Int.reduceEq, Int.reduceNe, ↓reduceIte]) (by set_option maxRecDepth 100000 in simp (maxSteps := 10000000) only [go_sem, Nat.reduceAdd, Nat.reduceSub, Nat.reduceMul, Nat.reduceLT, Nat.reduceLeDiff, Nat.reduceEqDiff, Nat.reduceMod, Nat.reduceDiv, Int.reduceNeg, Int.reduceLE, Int.reduceLT, Int.reduceToNat, Int.reduceEq, Int.reduceNe, ↓reduceIte]) rfl ?_
    set_option maxRecDepth 100000 in simp (maxSteps := 10000000) only [go_sem, Nat.reduceAdd, Nat.reduceSub, Nat.reduceMul, Nat.reduceLT, Nat.reduceLeDiff, Nat.reduceEqDiff, Nat.reduceMod, Nat.reduceDiv, Int.reduceNeg, Int.reduceLE, Int.reduceLT, Int.reduceToNat, Int.reduceEq, Int.reduceNe, ↓reduceIte,  hs2, hs3, synRow_len, hb]
    refine ⟨by decide +kernel, ?_⟩
    refine ih (s + 1) _ (by omega) (by omega) ?_
    set_option maxRecDepth 100000 in simp (maxSteps := 10000000) only [go_sem, Nat.reduceAdd, Nat.reduceSub, Nat.reduceMul, Nat.reduceLT, Nat.reduceLeDiff, Nat.reduceEqDiff, Nat.reduceMod, Nat.reduceDiv, Int.reduceNeg, Int.reduceLE, Int.reduceLT, Int.reduceToNat, Int.reduceEq, Int.reduceNe, ↓reduceIte,  wrap_succ (show s < 9223372036854775807 by omega), synRow_other (j := 0) (show ¬ s % d.n = 0 by omega), synRow_other (j := 1) (show ¬ s % d.n = 1 by omega), synRow_other (j := 2) (show ¬ s % d.n = 2 by omega), synRow_other (j := 3) (show ¬ s % d.n = 3 by omega), synRow_set hpn hs2]
theorem Synchronized_good (d : Disk) (hf : FitD d) (hW : Whole d) : Ans Try.prog 28 [.agg (encDisk d)] (.tup [.agg (encDisk d.synced), .int .i64 0]) := by
  rcases hW.kind with hk | hk | hk
  · exact Sync_1 d hf hW (hW.n0 hk) hk
  · exact Sync_2 d hf hW (hW.n1 hk) hk
  · have := hW.n2 hk
    have : d.n = 3 ∨ d.n = 4 ∨ d.n = 5 := by omega
    rcases this with q | q | q
    · exact Sync_3 d hf hW q hk
    · exact Sync_4 d hf hW q hk
    · exact Sync_5 d hf hW q hk

end Go.Proofs.Ytdfdagfgkijpcaa.C06
