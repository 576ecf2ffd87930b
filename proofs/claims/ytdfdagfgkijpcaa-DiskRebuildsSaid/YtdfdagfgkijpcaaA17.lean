/- Chapter 6: a unit rebuilt: for one to five units. Printed by gen_a17.py. -/
import Derived.Test.YtdfdagfgkijpcaaA16
namespace Go.Proofs.Ytdfdagfgkijpcaa.C06
open Go Go.Proofs Go.Proofs.Ytdfdagfgkijpcaa.Ab
set_option linter.unusedSimpArgs false
set_option linter.unusedVariables false
attribute [local congr] ite_ctx

def rebL (d : Disk) (u s : Nat) : List ByteArray := (List.range d.sz).map fun k => if k < s then (d.others u k).getD default else d.sec u k
def rebRow (d : Disk) (u s : Nat) : List (List AV) := (rebL d u s).map encStr
theorem rebRow_zero {d : Disk} {u : Nat} (hl : (d.at u).secs.length = d.sz) : rebRow d u 0 = (d.at u).secs.map encStr := by
  unfold rebRow
  congr 1
  unfold rebL
  apply List.ext_getElem (by simp [hl])
  intro k h1 h2
  simp only [List.getElem_map, List.getElem_range, Nat.not_lt_zero, if_false]
  simp only [Disk.sec, List.getD_eq_getElem?_getD, List.getElem?_eq_getElem h2, Option.getD_some]
theorem rebRow_len (d : Disk) (u s : Nat) : (rebRow d u s).length = d.sz := by simp [rebRow, rebL]
theorem rebRow_at {d : Disk} {u s : Nat} (h : s < d.sz) : ∃ b, (rebRow d u s)[s]? = some [.str b] := ⟨_, at_map (f := encStr) (l := rebL d u s) (by simpa [rebL] using h)⟩
theorem rebRow_succ {d : Disk} {u s : Nat} {x : ByteArray} (h : s < d.sz) (hx : d.others u s = some x) : rebRow d u (s + 1) = (rebRow d u s).set s [.str x] := by
  unfold rebRow
  rw [show ([.str x] : List AV) = encStr x from rfl, ← List.map_set]
  congr 1
  unfold rebL
  apply List.ext_getElem (by simp)
  intro k h1 h2
  rw [List.getElem_set]
  simp only [List.getElem_map, List.getElem_range]
  by_cases q : s = k
  · subst q; simp [hx]
  · rw [if_neg q]
    by_cases q2 : k < s
    · rw [if_pos q2, if_pos (by omega)]
    · rw [if_neg q2, if_neg (by omega)]
theorem rebRow_all (d : Disk) (u : Nat) : rebRow d u d.sz = ((List.range d.sz).map fun k => (d.others u k).getD default).map encStr := by
  unfold rebRow rebL
  congr 1
  exact List.map_congr_left fun k hk => if_pos (List.mem_range.1 hk)

set_option maxHeartbeats 8000000 in
theorem Rebuilt_1 (d : Disk) (hf : FitD d) (hn : d.n = 1) (u : Int) (hu : uE d u 2 true = 0) (hk : ¬ d.kind = 0) (hoth : ∀ s, s < d.sz → (d.others u.toNat s).isSome = true) : Ans Try.prog 26 [.agg (encDisk d), .int .i64 u] (.tup [.agg (encDisk (d.rebuilt u.toNat)), .int .i64 0]) := by
  obtain ⟨h0, ⟨hu0, hul⟩, hst⟩ := uE_zero hu
  have hO := okd_of h0
  have hz := hO.sz10
  have hk0 : (d.kind = 0) = False := eq_false hk
  have hue := unitErr_good d hf u 2 true
  rw [hu] at hue
  have hst2 : (d.at u.toNat).state = 2 := of_decide_eq_true hst
  have hsl := hO.len u.toNat hul (by rw [hst2]; decide)
  have hlens : ∀ j, j < d.n → (d.at j).secs.length ≤ 1000000 := fun j hj => by have := hf.m _ (nth_mem (l := d.units) hj); exact Nat.le_trans this (by decide)
  have how := owned_1 d.kind d.size (d.at 0) (hlens 0 (by omega))
  have hdd := units_1 hn
  rw [← hdd] at how
  have hcs : u = 0 := by omega
  subst hcs
  have hE : AV.agg (encDisk (d.rebuilt (0 : Int).toNat)) = .agg [.int .i64 d.kind, .int .i64 d.size, .sl [[.int .i64 0, .sl (rebRow d 0 d.sz)]]] := by
    rw [rebRow_all]
    conv => lhs; unfold Disk.rebuilt
    conv => lhs; arg 1; arg 1; arg 3; arg 1; rw [show d.units = [d.at 0] from congrArg Disk.units hdd]
    rfl
  rw [hE]
  replace hsl : (d.at 0).secs.length = d.sz := hsl
  replace hoth : ∀ s, s < d.sz → (d.others 0 s).isSome = true := hoth
  have hrz := rebRow_zero hsl
  refine good_run [(3000014, [], [103000000000000001000019, 103000000000000001001019, 103000000000000001002019, 103000000000000001003019, 103000000000000001004019, 101000000000000000000019]), (6, [5, 8, 9, 10, 23, 24, 25, 26, 27, 28, 29, 30, 31, 32, 33, 34, 35, 36, 37, 38, 39, 40, 41, 42, 43, 44, 45, 46, 47, 48, 49], [])] mixed Try.func26 rfl Try.ntmps26 (rs := [.cell 4 24, .tmp 5]) rfl (by decide +kernel) (by kernel_rfl) rfl ?_
  rw [startE_eq 56 _ _ _ rfl rfl]
  set_option maxRecDepth 100000 in simp (maxSteps := 10000000) only [go_sem, Nat.reduceAdd, Nat.reduceSub, Nat.reduceMul, Nat.reduceLT, Nat.reduceLeDiff, Nat.reduceEqDiff, Nat.reduceMod, Nat.reduceDiv, Int.reduceNeg, Int.reduceLE, Int.reduceLT, Int.reduceToNat, Int.reduceEq, Int.reduceNe, ↓reduceIte]
  refine call_of (hue) ?_
  set_option maxRecDepth 100000 in simp (maxSteps := 10000000) only [go_sem, Nat.reduceAdd, Nat.reduceSub, Nat.reduceMul, Nat.reduceLT, Nat.reduceLeDiff, Nat.reduceEqDiff, Nat.reduceMod, Nat.reduceDiv, Int.reduceNeg, Int.reduceLE, Int.reduceLT, Int.reduceToNat, Int.reduceEq, Int.reduceNe, ↓reduceIte]
  refine callM_of [] [19, 30] (how) ⟨rfl, rfl, rfl, by simp, by simp, by simp, by simp, rfl, rfl, rfl, onodup_of (l := [6, 12]) rfl (by decide)⟩ ?_
  set_option maxRecDepth 100000 in simp (maxSteps := 10000000) only [go_sem, Nat.reduceAdd, Nat.reduceSub, Nat.reduceMul, Nat.reduceLT, Nat.reduceLeDiff, Nat.reduceEqDiff, Nat.reduceMod, Nat.reduceDiv, Int.reduceNeg, Int.reduceLE, Int.reduceLT, Int.reduceToNat, Int.reduceEq, Int.reduceNe, ↓reduceIte]
  refine loop_by ([5, 8, 9, 10, 23, 24, 25, 26, 27, 28, 29, 30, 31, 32, 33, 34, 35, 36, 37, 38, 39, 40, 41, 42, 43, 44, 45, 46, 47, 48, 49], []) (fun s : Nat => [(.s 22, .int .i64 (s : Int)), (.o 30, .obj 1 9 1 false true (rebRow d 0 s))]) (fun s => d.sz - s) (fun s => s ≤ d.sz) 0 rfl (Nat.zero_le _) ?_ ?_
  · set_option maxRecDepth 100000 in simp (maxSteps := 10000000) only [go_sem, Nat.reduceAdd, Nat.reduceSub, Nat.reduceMul, Nat.reduceLT, Nat.reduceLeDiff, Nat.reduceEqDiff, Nat.reduceMod, Nat.reduceDiv, Int.reduceNeg, Int.reduceLE, Int.reduceLT, Int.reduceToNat, Int.reduceEq, Int.reduceNe, ↓reduceIte,  hrz]
  rintro c' st' hst' s hs ih
  set_option maxRecDepth 100000 in simp (maxSteps := 10000000) only [go_sem, Nat.reduceAdd, Nat.reduceSub, Nat.reduceMul, Nat.reduceLT, Nat.reduceLeDiff, Nat.reduceEqDiff, Nat.reduceMod, Nat.reduceDiv, Int.reduceNeg, Int.reduceLE, Int.reduceLT, Int.reduceToNat, Int.reduceEq, Int.reduceNe, ↓reduceIte]
  refine ifI (fun hlt => ?_) fun hlt => ?_
  case refine_2 =>
    have hss : s = d.sz := by omega
    subst hst' hss
    set_option maxRecDepth 100000 in simp (maxSteps := 10000000) only [go_sem, Nat.reduceAdd, Nat.reduceSub, Nat.reduceMul, Nat.reduceLT, Nat.reduceLeDiff, Nat.reduceEqDiff, Nat.reduceMod, Nat.reduceDiv, Int.reduceNeg, Int.reduceLE, Int.reduceLT, Int.reduceToNat, Int.reduceEq, Int.reduceNe, ↓reduceIte,  hlt]
  have hs2 : s < d.sz := by omega
  have hs3 : (s : Int) < (d.sz : Int) := by omega
  have hsome := hoth s hs2
  have hot : Ans Try.prog 52 [.agg (encDisk d), .int .i64 0, .int .i64 (s : Int)] (othT d 0 s) := others_good d hO 0 s hs2
  unfold othT at hot
  cases hx : d.others 0 s with
  | none => rw [hx] at hsome; cases hsome
  | some x =>
    rw [hx] at hot
    obtain ⟨b, hb⟩ := rebRow_at (u := 0) hs2
    set_option maxRecDepth 100000 in simp (maxSteps := 10000000) only [go_sem, Nat.reduceAdd, Nat.reduceSub, Nat.reduceMul, Nat.reduceLT, Nat.reduceLeDiff, Nat.reduceEqDiff, Nat.reduceMod, Nat.reduceDiv, Int.reduceNeg, Int.reduceLE, Int.reduceLT, Int.reduceToNat, Int.reduceEq, Int.reduceNe, ↓reduceIte,  hlt]
    refine call_of (hot) ?_
    set_option maxRecDepth 100000 in simp (maxSteps := 10000000) only [go_sem, Nat.reduceAdd, Nat.reduceSub, Nat.reduceMul, Nat.reduceLT, Nat.reduceLeDiff, Nat.reduceEqDiff, Nat.reduceMod, Nat.reduceDiv, Int.reduceNeg, Int.reduceLE, Int.reduceLT, Int.reduceToNat, Int.reduceEq, Int.reduceNe, ↓reduceIte,  Bool.not_true, hk0, decide_false, hs2, hs3, rebRow_len, hb]
    refine ih (s + 1) _ (by omega) (by omega) ?_
    set_option maxRecDepth 100000 in simp (maxSteps := 10000000) only [go_sem, Nat.reduceAdd, Nat.reduceSub, Nat.reduceMul, Nat.reduceLT, Nat.reduceLeDiff, Nat.reduceEqDiff, Nat.reduceMod, Nat.reduceDiv, Int.reduceNeg, Int.reduceLE, Int.reduceLT, Int.reduceToNat, Int.reduceEq, Int.reduceNe, ↓reduceIte,  wrap_succ (show s < 9223372036854775807 by omega), rebRow_succ hs2 hx]
set_option maxHeartbeats 8000000 in
theorem Rebuilt_2 (d : Disk) (hf : FitD d) (hn : d.n = 2) (u : Int) (hu : uE d u 2 true = 0) (hk : ¬ d.kind = 0) (hoth : ∀ s, s < d.sz → (d.others u.toNat s).isSome = true) : Ans Try.prog 26 [.agg (encDisk d), .int .i64 u] (.tup [.agg (encDisk (d.rebuilt u.toNat)), .int .i64 0]) := by
  obtain ⟨h0, ⟨hu0, hul⟩, hst⟩ := uE_zero hu
  have hO := okd_of h0
  have hz := hO.sz10
  have hk0 : (d.kind = 0) = False := eq_false hk
  have hue := unitErr_good d hf u 2 true
  rw [hu] at hue
  have hst2 : (d.at u.toNat).state = 2 := of_decide_eq_true hst
  have hsl := hO.len u.toNat hul (by rw [hst2]; decide)
  have hlens : ∀ j, j < d.n → (d.at j).secs.length ≤ 1000000 := fun j hj => by have := hf.m _ (nth_mem (l := d.units) hj); exact Nat.le_trans this (by decide)
  have how := owned_2 d.kind d.size (d.at 0) (d.at 1) (hlens 0 (by omega)) (hlens 1 (by omega))
  have hdd := units_2 hn
  rw [← hdd] at how
  have hcs : u = 0 ∨ u = 1 := by omega
  rcases hcs with rfl | rfl
  · have hE : AV.agg (encDisk (d.rebuilt (0 : Int).toNat)) = .agg [.int .i64 d.kind, .int .i64 d.size, .sl [[.int .i64 0, .sl (rebRow d 0 d.sz)], [.int .i64 (d.at 1).state, .sl ((d.at 1).secs.map encStr)]]] := by
      rw [rebRow_all]
      conv => lhs; unfold Disk.rebuilt
      conv => lhs; arg 1; arg 1; arg 3; arg 1; rw [show d.units = [d.at 0, d.at 1] from congrArg Disk.units hdd]
      rfl
    rw [hE]
    replace hsl : (d.at 0).secs.length = d.sz := hsl
    replace hoth : ∀ s, s < d.sz → (d.others 0 s).isSome = true := hoth
    have hrz := rebRow_zero hsl
    refine good_run [(3000014, [], [103000000000000001000019, 103000000000000001001019, 103000000000000001002019, 103000000000000001003019, 103000000000000001004019, 101000000000000000000019]), (6, [5, 8, 9, 10, 23, 24, 25, 26, 27, 28, 29, 30, 31, 32, 33, 34, 35, 36, 37, 38, 39, 40, 41, 42, 43, 44, 45, 46, 47, 48, 49], [])] mixed Try.func26 rfl Try.ntmps26 (rs := [.cell 4 24, .tmp 5]) rfl (by decide +kernel) (by kernel_rfl) rfl ?_
    rw [startE_eq 56 _ _ _ rfl rfl]
    set_option maxRecDepth 100000 in simp (maxSteps := 10000000) only [go_sem, Nat.reduceAdd, Nat.reduceSub, Nat.reduceMul, Nat.reduceLT, Nat.reduceLeDiff, Nat.reduceEqDiff, Nat.reduceMod, Nat.reduceDiv, Int.reduceNeg, Int.reduceLE, Int.reduceLT, Int.reduceToNat, Int.reduceEq, Int.reduceNe, ↓reduceIte]
    refine call_of (hue) ?_
    set_option maxRecDepth 100000 in simp (maxSteps := 10000000) only [go_sem, Nat.reduceAdd, Nat.reduceSub, Nat.reduceMul, Nat.reduceLT, Nat.reduceLeDiff, Nat.reduceEqDiff, Nat.reduceMod, Nat.reduceDiv, Int.reduceNeg, Int.reduceLE, Int.reduceLT, Int.reduceToNat, Int.reduceEq, Int.reduceNe, ↓reduceIte]
    refine callM_of [] [19, 30, 31] (how) ⟨rfl, rfl, rfl, by simp, by simp, by simp, by simp, rfl, rfl, rfl, onodup_of (l := [6, 12, 13]) rfl (by decide)⟩ ?_
    set_option maxRecDepth 100000 in simp (maxSteps := 10000000) only [go_sem, Nat.reduceAdd, Nat.reduceSub, Nat.reduceMul, Nat.reduceLT, Nat.reduceLeDiff, Nat.reduceEqDiff, Nat.reduceMod, Nat.reduceDiv, Int.reduceNeg, Int.reduceLE, Int.reduceLT, Int.reduceToNat, Int.reduceEq, Int.reduceNe, ↓reduceIte]
    refine loop_by ([5, 8, 9, 10, 23, 24, 25, 26, 27, 28, 29, 30, 31, 32, 33, 34, 35, 36, 37, 38, 39, 40, 41, 42, 43, 44, 45, 46, 47, 48, 49], []) (fun s : Nat => [(.s 22, .int .i64 (s : Int)), (.o 30, .obj 1 9 1 false true (rebRow d 0 s))]) (fun s => d.sz - s) (fun s => s ≤ d.sz) 0 rfl (Nat.zero_le _) ?_ ?_
    · set_option maxRecDepth 100000 in simp (maxSteps := 10000000) only [go_sem, Nat.reduceAdd, Nat.reduceSub, Nat.reduceMul, Nat.reduceLT, Nat.reduceLeDiff, Nat.reduceEqDiff, Nat.reduceMod, Nat.reduceDiv, Int.reduceNeg, Int.reduceLE, Int.reduceLT, Int.reduceToNat, Int.reduceEq, Int.reduceNe, ↓reduceIte,  hrz]
    rintro c' st' hst' s hs ih
    set_option maxRecDepth 100000 in simp (maxSteps := 10000000) only [go_sem, Nat.reduceAdd, Nat.reduceSub, Nat.reduceMul, Nat.reduceLT, Nat.reduceLeDiff, Nat.reduceEqDiff, Nat.reduceMod, Nat.reduceDiv, Int.reduceNeg, Int.reduceLE, Int.reduceLT, Int.reduceToNat, Int.reduceEq, Int.reduceNe, ↓reduceIte]
    refine ifI (fun hlt => ?_) fun hlt => ?_
    case refine_2 =>
      have hss : s = d.sz := by omega
      subst hst' hss
      set_option maxRecDepth 100000 in simp (maxSteps := 10000000) only [go_sem, Nat.reduceAdd, Nat.reduceSub, Nat.reduceMul, Nat.reduceLT, Nat.reduceLeDiff, Nat.reduceEqDiff, Nat.reduceMod, Nat.reduceDiv, Int.reduceNeg, Int.reduceLE, Int.reduceLT, Int.reduceToNat, Int.reduceEq, Int.reduceNe, ↓reduceIte,  hlt]
    have hs2 : s < d.sz := by omega
    have hs3 : (s : Int) < (d.sz : Int) := by omega
    have hsome := hoth s hs2
    have hot : Ans Try.prog 52 [.agg (encDisk d), .int .i64 0, .int .i64 (s : Int)] (othT d 0 s) := others_good d hO 0 s hs2
    unfold othT at hot
    cases hx : d.others 0 s with
    | none => rw [hx] at hsome; cases hsome
    | some x =>
      rw [hx] at hot
      obtain ⟨b, hb⟩ := rebRow_at (u := 0) hs2
      set_option maxRecDepth 100000 in simp (maxSteps := 10000000) only [go_sem, Nat.reduceAdd, Nat.reduceSub, Nat.reduceMul, Nat.reduceLT, Nat.reduceLeDiff, Nat.reduceEqDiff, Nat.reduceMod, Nat.reduceDiv, Int.reduceNeg, Int.reduceLE, Int.reduceLT, Int.reduceToNat, Int.reduceEq, Int.reduceNe, ↓reduceIte,  hlt]
      refine call_of (hot) ?_
      set_option maxRecDepth 100000 in simp (maxSteps := 10000000) only [go_sem, Nat.reduceAdd, Nat.reduceSub, Nat.reduceMul, Nat.reduceLT, Nat.reduceLeDiff, Nat.reduceEqDiff, Nat.reduceMod, Nat.reduceDiv, Int.reduceNeg, Int.reduceLE, Int.reduceLT, Int.reduceToNat, Int.reduceEq, Int.reduceNe, ↓reduceIte,  Bool.not_true, hk0, decide_false, hs2, hs3, rebRow_len, hb]
      refine ih (s + 1) _ (by omega) (by omega) ?_
      set_option maxRecDepth 100000 in simp (maxSteps := 10000000) only [go_sem, Nat.reduceAdd, Nat.reduceSub, Nat.reduceMul, Nat.reduceLT, Nat.reduceLeDiff, Nat.reduceEqDiff, Nat.reduceMod, Nat.reduceDiv, Int.reduceNeg, Int.reduceLE, Int.reduceLT, Int.reduceToNat, Int.reduceEq, Int.reduceNe, ↓reduceIte,  wrap_succ (show s < 9223372036854775807 by omega), rebRow_succ hs2 hx]
  · have hE : AV.agg (encDisk (d.rebuilt (1 : Int).toNat)) = .agg [.int .i64 d.kind, .int .i64 d.size, .sl [[.int .i64 (d.at 0).state, .sl ((d.at 0).secs.map encStr)], [.int .i64 0, .sl (rebRow d 1 d.sz)]]] := by
      rw [rebRow_all]
      conv => lhs; unfold Disk.rebuilt
      conv => lhs; arg 1; arg 1; arg 3; arg 1; rw [show d.units = [d.at 0, d.at 1] from congrArg Disk.units hdd]
      rfl
    rw [hE]
    replace hsl : (d.at 1).secs.length = d.sz := hsl
    replace hoth : ∀ s, s < d.sz → (d.others 1 s).isSome = true := hoth
    have hrz := rebRow_zero hsl
    refine good_run [(3000014, [], [103000000000000001000019, 103000000000000001001019, 103000000000000001002019, 103000000000000001003019, 103000000000000001004019, 101000000000000000000019]), (6, [5, 8, 9, 10, 23, 24, 25, 26, 27, 28, 29, 30, 31, 32, 33, 34, 35, 36, 37, 38, 39, 40, 41, 42, 43, 44, 45, 46, 47, 48, 49], [])] mixed Try.func26 rfl Try.ntmps26 (rs := [.cell 4 24, .tmp 5]) rfl (by decide +kernel) (by kernel_rfl) rfl ?_
    rw [startE_eq 56 _ _ _ rfl rfl]
    set_option maxRecDepth 100000 in simp (maxSteps := 10000000) only [go_sem, Nat.reduceAdd, Nat.reduceSub, Nat.reduceMul, Nat.reduceLT, Nat.reduceLeDiff, Nat.reduceEqDiff, Nat.reduceMod, Nat.reduceDiv, Int.reduceNeg, Int.reduceLE, Int.reduceLT, Int.reduceToNat, Int.reduceEq, Int.reduceNe, ↓reduceIte]
    refine call_of (hue) ?_
    set_option maxRecDepth 100000 in simp (maxSteps := 10000000) only [go_sem, Nat.reduceAdd, Nat.reduceSub, Nat.reduceMul, Nat.reduceLT, Nat.reduceLeDiff, Nat.reduceEqDiff, Nat.reduceMod, Nat.reduceDiv, Int.reduceNeg, Int.reduceLE, Int.reduceLT, Int.reduceToNat, Int.reduceEq, Int.reduceNe, ↓reduceIte]
    refine callM_of [] [19, 30, 31] (how) ⟨rfl, rfl, rfl, by simp, by simp, by simp, by simp, rfl, rfl, rfl, onodup_of (l := [6, 12, 13]) rfl (by decide)⟩ ?_
    set_option maxRecDepth 100000 in simp (maxSteps := 10000000) only [go_sem, Nat.reduceAdd, Nat.reduceSub, Nat.reduceMul, Nat.reduceLT, Nat.reduceLeDiff, Nat.reduceEqDiff, Nat.reduceMod, Nat.reduceDiv, Int.reduceNeg, Int.reduceLE, Int.reduceLT, Int.reduceToNat, Int.reduceEq, Int.reduceNe, ↓reduceIte]
    refine loop_by ([5, 8, 9, 10, 23, 24, 25, 26, 27, 28, 29, 30, 31, 32, 33, 34, 35, 36, 37, 38, 39, 40, 41, 42, 43, 44, 45, 46, 47, 48, 49], []) (fun s : Nat => [(.s 22, .int .i64 (s : Int)), (.o 31, .obj 1 9 1 false true (rebRow d 1 s))]) (fun s => d.sz - s) (fun s => s ≤ d.sz) 0 rfl (Nat.zero_le _) ?_ ?_
    · set_option maxRecDepth 100000 in simp (maxSteps := 10000000) only [go_sem, Nat.reduceAdd, Nat.reduceSub, Nat.reduceMul, Nat.reduceLT, Nat.reduceLeDiff, Nat.reduceEqDiff, Nat.reduceMod, Nat.reduceDiv, Int.reduceNeg, Int.reduceLE, Int.reduceLT, Int.reduceToNat, Int.reduceEq, Int.reduceNe, ↓reduceIte,  hrz]
    rintro c' st' hst' s hs ih
    set_option maxRecDepth 100000 in simp (maxSteps := 10000000) only [go_sem, Nat.reduceAdd, Nat.reduceSub, Nat.reduceMul, Nat.reduceLT, Nat.reduceLeDiff, Nat.reduceEqDiff, Nat.reduceMod, Nat.reduceDiv, Int.reduceNeg, Int.reduceLE, Int.reduceLT, Int.reduceToNat, Int.reduceEq, Int.reduceNe, ↓reduceIte]
    refine ifI (fun hlt => ?_) fun hlt => ?_
    case refine_2 =>
      have hss : s = d.sz := by omega
      subst hst' hss
      set_option maxRecDepth 100000 in simp (maxSteps := 10000000) only [go_sem, Nat.reduceAdd, Nat.reduceSub, Nat.reduceMul, Nat.reduceLT, Nat.reduceLeDiff, Nat.reduceEqDiff, Nat.reduceMod, Nat.reduceDiv, Int.reduceNeg, Int.reduceLE, Int.reduceLT, Int.reduceToNat, Int.reduceEq, Int.reduceNe, ↓reduceIte,  hlt]
    have hs2 : s < d.sz := by omega
    have hs3 : (s : Int) < (d.sz : Int) := by omega
    have hsome := hoth s hs2
    have hot : Ans Try.prog 52 [.agg (encDisk d), .int .i64 1, .int .i64 (s : Int)] (othT d 1 s) := others_good d hO 1 s hs2
    unfold othT at hot
    cases hx : d.others 1 s with
    | none => rw [hx] at hsome; cases hsome
    | some x =>
      rw [hx] at hot
      obtain ⟨b, hb⟩ := rebRow_at (u := 1) hs2
      set_option maxRecDepth 100000 in simp (maxSteps := 10000000) only [go_sem, Nat.reduceAdd, Nat.reduceSub, Nat.reduceMul, Nat.reduceLT, Nat.reduceLeDiff, Nat.reduceEqDiff, Nat.reduceMod, Nat.reduceDiv, Int.reduceNeg, Int.reduceLE, Int.reduceLT, Int.reduceToNat, Int.reduceEq, Int.reduceNe, ↓reduceIte,  hlt]
      refine call_of (hot) ?_
      set_option maxRecDepth 100000 in simp (maxSteps := 10000000) only [go_sem, Nat.reduceAdd, Nat.reduceSub, Nat.reduceMul, Nat.reduceLT, Nat.reduceLeDiff, Nat.reduceEqDiff, Nat.reduceMod, Nat.reduceDiv, Int.reduceNeg, Int.reduceLE, Int.reduceLT, Int.reduceToNat, Int.reduceEq, Int.reduceNe, ↓reduceIte,  Bool.not_true, hk0, decide_false, hs2, hs3, rebRow_len, hb]
      refine ih (s + 1) _ (by omega) (by omega) ?_
      set_option maxRecDepth 100000 in simp (maxSteps := 10000000) only [go_sem, Nat.reduceAdd, Nat.reduceSub, Nat.reduceMul, Nat.reduceLT, Nat.reduceLeDiff, Nat.reduceEqDiff, Nat.reduceMod, Nat.reduceDiv, Int.reduceNeg, Int.reduceLE, Int.reduceLT, Int.reduceToNat, Int.reduceEq, Int.reduceNe, ↓reduceIte,  wrap_succ (show s < 9223372036854775807 by omega), rebRow_succ hs2 hx]
set_option maxHeartbeats 8000000 in
theorem Rebuilt_3 (d : Disk) (hf : FitD d) (hn : d.n = 3) (u : Int) (hu : uE d u 2 true = 0) (hk : ¬ d.kind = 0) (hoth : ∀ s, s < d.sz → (d.others u.toNat s).isSome = true) : Ans Try.prog 26 [.agg (encDisk d), .int .i64 u] (.tup [.agg (encDisk (d.rebuilt u.toNat)), .int .i64 0]) := by
  obtain ⟨h0, ⟨hu0, hul⟩, hst⟩ := uE_zero hu
  have hO := okd_of h0
  have hz := hO.sz10
  have hk0 : (d.kind = 0) = False := eq_false hk
  have hue := unitErr_good d hf u 2 true
  rw [hu] at hue
  have hst2 : (d.at u.toNat).state = 2 := of_decide_eq_true hst
  have hsl := hO.len u.toNat hul (by rw [hst2]; decide)
  have hlens : ∀ j, j < d.n → (d.at j).secs.length ≤ 1000000 := fun j hj => by have := hf.m _ (nth_mem (l := d.units) hj); exact Nat.le_trans this (by decide)
  have how := owned_3 d.kind d.size (d.at 0) (d.at 1) (d.at 2) (hlens 0 (by omega)) (hlens 1 (by omega)) (hlens 2 (by omega))
  have hdd := units_3 hn
  rw [← hdd] at how
  have hcs : u = 0 ∨ u = 1 ∨ u = 2 := by omega
  rcases hcs with rfl | rfl | rfl
  · have hE : AV.agg (encDisk (d.rebuilt (0 : Int).toNat)) = .agg [.int .i64 d.kind, .int .i64 d.size, .sl [[.int .i64 0, .sl (rebRow d 0 d.sz)], [.int .i64 (d.at 1).state, .sl ((d.at 1).secs.map encStr)], [.int .i64 (d.at 2).state, .sl ((d.at 2).secs.map encStr)]]] := by
      rw [rebRow_all]
      conv => lhs; unfold Disk.rebuilt
      conv => lhs; arg 1; arg 1; arg 3; arg 1; rw [show d.units = [d.at 0, d.at 1, d.at 2] from congrArg Disk.units hdd]
      rfl
    rw [hE]
    replace hsl : (d.at 0).secs.length = d.sz := hsl
    replace hoth : ∀ s, s < d.sz → (d.others 0 s).isSome = true := hoth
    have hrz := rebRow_zero hsl
    refine good_run [(3000014, [], [103000000000000001000019, 103000000000000001001019, 103000000000000001002019, 103000000000000001003019, 103000000000000001004019, 101000000000000000000019]), (6, [5, 8, 9, 10, 23, 24, 25, 26, 27, 28, 29, 30, 31, 32, 33, 34, 35, 36, 37, 38, 39, 40, 41, 42, 43, 44, 45, 46, 47, 48, 49], [])] mixed Try.func26 rfl Try.ntmps26 (rs := [.cell 4 24, .tmp 5]) rfl (by decide +kernel) (by kernel_rfl) rfl ?_
    rw [startE_eq 56 _ _ _ rfl rfl]
    set_option maxRecDepth 100000 in simp (maxSteps := 10000000) only [go_sem, Nat.reduceAdd, Nat.reduceSub, Nat.reduceMul, Nat.reduceLT, Nat.reduceLeDiff, Nat.reduceEqDiff, Nat.reduceMod, Nat.reduceDiv, Int.reduceNeg, Int.reduceLE, Int.reduceLT, Int.reduceToNat, Int.reduceEq, Int.reduceNe, ↓reduceIte]
    refine call_of (hue) ?_
    set_option maxRecDepth 100000 in simp (maxSteps := 10000000) only [go_sem, Nat.reduceAdd, Nat.reduceSub, Nat.reduceMul, Nat.reduceLT, Nat.reduceLeDiff, Nat.reduceEqDiff, Nat.reduceMod, Nat.reduceDiv, Int.reduceNeg, Int.reduceLE, Int.reduceLT, Int.reduceToNat, Int.reduceEq, Int.reduceNe, ↓reduceIte]
    refine callM_of [] [19, 30, 31, 32] (how) ⟨rfl, rfl, rfl, by simp, by simp, by simp, by simp, rfl, rfl, rfl, onodup_of (l := [6, 12, 13, 14]) rfl (by decide)⟩ ?_
    set_option maxRecDepth 100000 in simp (maxSteps := 10000000) only [go_sem, Nat.reduceAdd, Nat.reduceSub, Nat.reduceMul, Nat.reduceLT, Nat.reduceLeDiff, Nat.reduceEqDiff, Nat.reduceMod, Nat.reduceDiv, Int.reduceNeg, Int.reduceLE, Int.reduceLT, Int.reduceToNat, Int.reduceEq, Int.reduceNe, ↓reduceIte]
    refine loop_by ([5, 8, 9, 10, 23, 24, 25, 26, 27, 28, 29, 30, 31, 32, 33, 34, 35, 36, 37, 38, 39, 40, 41, 42, 43, 44, 45, 46, 47, 48, 49], []) (fun s : Nat => [(.s 22, .int .i64 (s : Int)), (.o 30, .obj 1 9 1 false true (rebRow d 0 s))]) (fun s => d.sz - s) (fun s => s ≤ d.sz) 0 rfl (Nat.zero_le _) ?_ ?_
    · set_option maxRecDepth 100000 in simp (maxSteps := 10000000) only [go_sem, Nat.reduceAdd, Nat.reduceSub, Nat.reduceMul, Nat.reduceLT, Nat.reduceLeDiff, Nat.reduceEqDiff, Nat.reduceMod, Nat.reduceDiv, Int.reduceNeg, Int.reduceLE, Int.reduceLT, Int.reduceToNat, Int.reduceEq, Int.reduceNe, ↓reduceIte,  hrz]
    rintro c' st' hst' s hs ih
    set_option maxRecDepth 100000 in simp (maxSteps := 10000000) only [go_sem, Nat.reduceAdd, Nat.reduceSub, Nat.reduceMul, Nat.reduceLT, Nat.reduceLeDiff, Nat.reduceEqDiff, Nat.reduceMod, Nat.reduceDiv, Int.reduceNeg, Int.reduceLE, Int.reduceLT, Int.reduceToNat, Int.reduceEq, Int.reduceNe, ↓reduceIte]
    refine ifI (fun hlt => ?_) fun hlt => ?_
    case refine_2 =>
      have hss : s = d.sz := by omega
      subst hst' hss
      set_option maxRecDepth 100000 in simp (maxSteps := 10000000) only [go_sem, Nat.reduceAdd, Nat.reduceSub, Nat.reduceMul, Nat.reduceLT, Nat.reduceLeDiff, Nat.reduceEqDiff, Nat.reduceMod, Nat.reduceDiv, Int.reduceNeg, Int.reduceLE, Int.reduceLT, Int.reduceToNat, Int.reduceEq, Int.reduceNe, ↓reduceIte,  hlt]
    have hs2 : s < d.sz := by omega
    have hs3 : (s : Int) < (d.sz : Int) := by omega
    have hsome := hoth s hs2
    have hot : Ans Try.prog 52 [.agg (encDisk d), .int .i64 0, .int .i64 (s : Int)] (othT d 0 s) := others_good d hO 0 s hs2
    unfold othT at hot
    cases hx : d.others 0 s with
    | none => rw [hx] at hsome; cases hsome
    | some x =>
      rw [hx] at hot
      obtain ⟨b, hb⟩ := rebRow_at (u := 0) hs2
      set_option maxRecDepth 100000 in simp (maxSteps := 10000000) only [go_sem, Nat.reduceAdd, Nat.reduceSub, Nat.reduceMul, Nat.reduceLT, Nat.reduceLeDiff, Nat.reduceEqDiff, Nat.reduceMod, Nat.reduceDiv, Int.reduceNeg, Int.reduceLE, Int.reduceLT, Int.reduceToNat, Int.reduceEq, Int.reduceNe, ↓reduceIte,  hlt]
      refine call_of (hot) ?_
      set_option maxRecDepth 100000 in simp (maxSteps := 10000000) only [go_sem, Nat.reduceAdd, Nat.reduceSub, Nat.reduceMul, Nat.reduceLT, Nat.reduceLeDiff, Nat.reduceEqDiff, Nat.reduceMod, Nat.reduceDiv, Int.reduceNeg, Int.reduceLE, Int.reduceLT, Int.reduceToNat, Int.reduceEq, Int.reduceNe, ↓reduceIte,  Bool.not_true, hk0, decide_false, hs2, hs3, rebRow_len, hb]
      refine ih (s + 1) _ (by omega) (by omega) ?_
      set_option maxRecDepth 100000 in simp (maxSteps := 10000000) only [go_sem, Nat.reduceAdd, Nat.reduceSub, Nat.reduceMul, Nat.reduceLT, Nat.reduceLeDiff, Nat.reduceEqDiff, Nat.reduceMod, Nat.reduceDiv, Int.reduceNeg, Int.reduceLE, Int.reduceLT, Int.reduceToNat, Int.reduceEq, Int.reduceNe, ↓reduceIte,  wrap_succ (show s < 9223372036854775807 by omega), rebRow_succ hs2 hx]
  · have hE : AV.agg (encDisk (d.rebuilt (1 : Int).toNat)) = .agg [.int .i64 d.kind, .int .i64 d.size, .sl [[.int .i64 (d.at 0).state, .sl ((d.at 0).secs.map encStr)], [.int .i64 0, .sl (rebRow d 1 d.sz)], [.int .i64 (d.at 2).state, .sl ((d.at 2).secs.map encStr)]]] := by
      rw [rebRow_all]
      conv => lhs; unfold Disk.rebuilt
      conv => lhs; arg 1; arg 1; arg 3; arg 1; rw [show d.units = [d.at 0, d.at 1, d.at 2] from congrArg Disk.units hdd]
      rfl
    rw [hE]
    replace hsl : (d.at 1).secs.length = d.sz := hsl
    replace hoth : ∀ s, s < d.sz → (d.others 1 s).isSome = true := hoth
    have hrz := rebRow_zero hsl
    refine good_run [(3000014, [], [103000000000000001000019, 103000000000000001001019, 103000000000000001002019, 103000000000000001003019, 103000000000000001004019, 101000000000000000000019]), (6, [5, 8, 9, 10, 23, 24, 25, 26, 27, 28, 29, 30, 31, 32, 33, 34, 35, 36, 37, 38, 39, 40, 41, 42, 43, 44, 45, 46, 47, 48, 49], [])] mixed Try.func26 rfl Try.ntmps26 (rs := [.cell 4 24, .tmp 5]) rfl (by decide +kernel) (by kernel_rfl) rfl ?_
    rw [startE_eq 56 _ _ _ rfl rfl]
    set_option maxRecDepth 100000 in simp (maxSteps := 10000000) only [go_sem, Nat.reduceAdd, Nat.reduceSub, Nat.reduceMul, Nat.reduceLT, Nat.reduceLeDiff, Nat.reduceEqDiff, Nat.reduceMod, Nat.reduceDiv, Int.reduceNeg, Int.reduceLE, Int.reduceLT, Int.reduceToNat, Int.reduceEq, Int.reduceNe, ↓reduceIte]
    refine call_of (hue) ?_
    set_option maxRecDepth 100000 in simp (maxSteps := 10000000) only [go_sem, Nat.reduceAdd, Nat.reduceSub, Nat.reduceMul, Nat.reduceLT, Nat.reduceLeDiff, Nat.reduceEqDiff, Nat.reduceMod, Nat.reduceDiv, Int.reduceNeg, Int.reduceLE, Int.reduceLT, Int.reduceToNat, Int.reduceEq, Int.reduceNe, ↓reduceIte]
    refine callM_of [] [19, 30, 31, 32] (how) ⟨rfl, rfl, rfl, by simp, by simp, by simp, by simp, rfl, rfl, rfl, onodup_of (l := [6, 12, 13, 14]) rfl (by decide)⟩ ?_
    set_option maxRecDepth 100000 in simp (maxSteps := 10000000) only [go_sem, Nat.reduceAdd, Nat.reduceSub, Nat.reduceMul, Nat.reduceLT, Nat.reduceLeDiff, Nat.reduceEqDiff, Nat.reduceMod, Nat.reduceDiv, Int.reduceNeg, Int.reduceLE, Int.reduceLT, Int.reduceToNat, Int.reduceEq, Int.reduceNe, ↓reduceIte]
    refine loop_by ([5, 8, 9, 10, 23, 24, 25, 26, 27, 28, 29, 30, 31, 32, 33, 34, 35, 36, 37, 38, 39, 40, 41, 42, 43, 44, 45, 46, 47, 48, 49], []) (fun s : Nat => [(.s 22, .int .i64 (s : Int)), (.o 31, .obj 1 9 1 false true (rebRow d 1 s))]) (fun s => d.sz - s) (fun s => s ≤ d.sz) 0 rfl (Nat.zero_le _) ?_ ?_
    · set_option maxRecDepth 100000 in simp (maxSteps := 10000000) only [go_sem, Nat.reduceAdd, Nat.reduceSub, Nat.reduceMul, Nat.reduceLT, Nat.reduceLeDiff, Nat.reduceEqDiff, Nat.reduceMod, Nat.reduceDiv, Int.reduceNeg, Int.reduceLE, Int.reduceLT, Int.reduceToNat, Int.reduceEq, Int.reduceNe, ↓reduceIte,  hrz]
    rintro c' st' hst' s hs ih
    set_option maxRecDepth 100000 in simp (maxSteps := 10000000) only [go_sem, Nat.reduceAdd, Nat.reduceSub, Nat.reduceMul, Nat.reduceLT, Nat.reduceLeDiff, Nat.reduceEqDiff, Nat.reduceMod, Nat.reduceDiv, Int.reduceNeg, Int.reduceLE, Int.reduceLT, Int.reduceToNat, Int.reduceEq, Int.reduceNe, ↓reduceIte]
    refine ifI (fun hlt => ?_) fun hlt => ?_
    case refine_2 =>
      have hss : s = d.sz := by omega
      subst hst' hss
      set_option maxRecDepth 100000 in simp (maxSteps := 10000000) only [go_sem, Nat.reduceAdd, Nat.reduceSub, Nat.reduceMul, Nat.reduceLT, Nat.reduceLeDiff, Nat.reduceEqDiff, Nat.reduceMod, Nat.reduceDiv, Int.reduceNeg, Int.reduceLE, Int.reduceLT, Int.reduceToNat, Int.reduceEq, Int.reduceNe, ↓reduceIte,  hlt]
    have hs2 : s < d.sz := by omega
    have hs3 : (s : Int) < (d.sz : Int) := by omega
    have hsome := hoth s hs2
    have hot : Ans Try.prog 52 [.agg (encDisk d), .int .i64 1, .int .i64 (s : Int)] (othT d 1 s) := others_good d hO 1 s hs2
    unfold othT at hot
    cases hx : d.others 1 s with
    | none => rw [hx] at hsome; cases hsome
    | some x =>
      rw [hx] at hot
      obtain ⟨b, hb⟩ := rebRow_at (u := 1) hs2
      set_option maxRecDepth 100000 in simp (maxSteps := 10000000) only [go_sem, Nat.reduceAdd, Nat.reduceSub, Nat.reduceMul, Nat.reduceLT, Nat.reduceLeDiff, Nat.reduceEqDiff, Nat.reduceMod, Nat.reduceDiv, Int.reduceNeg, Int.reduceLE, Int.reduceLT, Int.reduceToNat, Int.reduceEq, Int.reduceNe, ↓reduceIte,  hlt]
      refine call_of (hot) ?_
      set_option maxRecDepth 100000 in simp (maxSteps := 10000000) only [go_sem, Nat.reduceAdd, Nat.reduceSub, Nat.reduceMul, Nat.reduceLT, Nat.reduceLeDiff, Nat.reduceEqDiff, Nat.reduceMod, Nat.reduceDiv, Int.reduceNeg, Int.reduceLE, Int.reduceLT, Int.reduceToNat, Int.reduceEq, Int.reduceNe, ↓reduceIte,  Bool.not_true, hk0, decide_false, hs2, hs3, rebRow_len, hb]
      refine ih (s + 1) _ (by omega) (by omega) ?_
      set_option maxRecDepth 100000 in simp (maxSteps := 10000000) only [go_sem, Nat.reduceAdd, Nat.reduceSub, Nat.reduceMul, Nat.reduceLT, Nat.reduceLeDiff, Nat.reduceEqDiff, Nat.reduceMod, Nat.reduceDiv, Int.reduceNeg, Int.reduceLE, Int.reduceLT, Int.reduceToNat, Int.reduceEq, Int.reduceNe, ↓reduceIte,  wrap_succ (show s < 9223372036854775807 by omega), rebRow_succ hs2 hx]
  · have hE : AV.agg (encDisk (d.rebuilt (2 : Int).toNat)) = .agg [.int .i64 d.kind, .int .i64 d.size, .sl [[.int .i64 (d.at 0).state, .sl ((d.at 0).secs.map encStr)], [.int .i64 (d.at 1).state, .sl ((d.at 1).secs.map encStr)], [.int .i64 0, .sl (rebRow d 2 d.sz)]]] := by
      rw [rebRow_all]
      conv => lhs; unfold Disk.rebuilt
      conv => lhs; arg 1; arg 1; arg 3; arg 1; rw [show d.units = [d.at 0, d.at 1, d.at 2] from congrArg Disk.units hdd]
      rfl
    rw [hE]
    replace hsl : (d.at 2).secs.length = d.sz := hsl
    replace hoth : ∀ s, s < d.sz → (d.others 2 s).isSome = true := hoth
    have hrz := rebRow_zero hsl
    refine good_run [(3000014, [], [103000000000000001000019, 103000000000000001001019, 103000000000000001002019, 103000000000000001003019, 103000000000000001004019, 101000000000000000000019]), (6, [5, 8, 9, 10, 23, 24, 25, 26, 27, 28, 29, 30, 31, 32, 33, 34, 35, 36, 37, 38, 39, 40, 41, 42, 43, 44, 45, 46, 47, 48, 49], [])] mixed Try.func26 rfl Try.ntmps26 (rs := [.cell 4 24, .tmp 5]) rfl (by decide +kernel) (by kernel_rfl) rfl ?_
    rw [startE_eq 56 _ _ _ rfl rfl]
    set_option maxRecDepth 100000 in simp (maxSteps := 10000000) only [go_sem, Nat.reduceAdd, Nat.reduceSub, Nat.reduceMul, Nat.reduceLT, Nat.reduceLeDiff, Nat.reduceEqDiff, Nat.reduceMod, Nat.reduceDiv, Int.reduceNeg, Int.reduceLE, Int.reduceLT, Int.reduceToNat, Int.reduceEq, Int.reduceNe, ↓reduceIte]
    refine call_of (hue) ?_
    set_option maxRecDepth 100000 in simp (maxSteps := 10000000) only [go_sem, Nat.reduceAdd, Nat.reduceSub, Nat.reduceMul, Nat.reduceLT, Nat.reduceLeDiff, Nat.reduceEqDiff, Nat.reduceMod, Nat.reduceDiv, Int.reduceNeg, Int.reduceLE, Int.reduceLT, Int.reduceToNat, Int.reduceEq, Int.reduceNe, ↓reduceIte]
    refine callM_of [] [19, 30, 31, 32] (how) ⟨rfl, rfl, rfl, by simp, by simp, by simp, by simp, rfl, rfl, rfl, onodup_of (l := [6, 12, 13, 14]) rfl (by decide)⟩ ?_
    set_option maxRecDepth 100000 in simp (maxSteps := 10000000) only [go_sem, Nat.reduceAdd, Nat.reduceSub, Nat.reduceMul, Nat.reduceLT, Nat.reduceLeDiff, Nat.reduceEqDiff, Nat.reduceMod, Nat.reduceDiv, Int.reduceNeg, Int.reduceLE, Int.reduceLT, Int.reduceToNat, Int.reduceEq, Int.reduceNe, ↓reduceIte]
    refine loop_by ([5, 8, 9, 10, 23, 24, 25, 26, 27, 28, 29, 30, 31, 32, 33, 34, 35, 36, 37, 38, 39, 40, 41, 42, 43, 44, 45, 46, 47, 48, 49], []) (fun s : Nat => [(.s 22, .int .i64 (s : Int)), (.o 32, .obj 1 9 1 false true (rebRow d 2 s))]) (fun s => d.sz - s) (fun s => s ≤ d.sz) 0 rfl (Nat.zero_le _) ?_ ?_
    · set_option maxRecDepth 100000 in simp (maxSteps := 10000000) only [go_sem, Nat.reduceAdd, Nat.reduceSub, Nat.reduceMul, Nat.reduceLT, Nat.reduceLeDiff, Nat.reduceEqDiff, Nat.reduceMod, Nat.reduceDiv, Int.reduceNeg, Int.reduceLE, Int.reduceLT, Int.reduceToNat, Int.reduceEq, Int.reduceNe, ↓reduceIte,  hrz]
    rintro c' st' hst' s hs ih
    set_option maxRecDepth 100000 in simp (maxSteps := 10000000) only [go_sem, Nat.reduceAdd, Nat.reduceSub, Nat.reduceMul, Nat.reduceLT, Nat.reduceLeDiff, Nat.reduceEqDiff, Nat.reduceMod, Nat.reduceDiv, Int.reduceNeg, Int.reduceLE, Int.reduceLT, Int.reduceToNat, Int.reduceEq, Int.reduceNe, ↓reduceIte]
    refine ifI (fun hlt => ?_) fun hlt => ?_
    case refine_2 =>
      have hss : s = d.sz := by omega
      subst hst' hss
      set_option maxRecDepth 100000 in simp (maxSteps := 10000000) only [go_sem, Nat.reduceAdd, Nat.reduceSub, Nat.reduceMul, Nat.reduceLT, Nat.reduceLeDiff, Nat.reduceEqDiff, Nat.reduceMod, Nat.reduceDiv, Int.reduceNeg, Int.reduceLE, Int.reduceLT, Int.reduceToNat, Int.reduceEq, Int.reduceNe, ↓reduceIte,  hlt]
    have hs2 : s < d.sz := by omega
    have hs3 : (s : Int) < (d.sz : Int) := by omega
    have hsome := hoth s hs2
    have hot : Ans Try.prog 52 [.agg (encDisk d), .int .i64 2, .int .i64 (s : Int)] (othT d 2 s) := others_good d hO 2 s hs2
    unfold othT at hot
    cases hx : d.others 2 s with
    | none => rw [hx] at hsome; cases hsome
    | some x =>
      rw [hx] at hot
      obtain ⟨b, hb⟩ := rebRow_at (u := 2) hs2
      set_option maxRecDepth 100000 in simp (maxSteps := 10000000) only [go_sem, Nat.reduceAdd, Nat.reduceSub, Nat.reduceMul, Nat.reduceLT, Nat.reduceLeDiff, Nat.reduceEqDiff, Nat.reduceMod, Nat.reduceDiv, Int.reduceNeg, Int.reduceLE, Int.reduceLT, Int.reduceToNat, Int.reduceEq, Int.reduceNe, ↓reduceIte,  hlt]
      refine call_of (hot) ?_
      set_option maxRecDepth 100000 in simp (maxSteps := 10000000) only [go_sem, Nat.reduceAdd, Nat.reduceSub, Nat.reduceMul, Nat.reduceLT, Nat.reduceLeDiff, Nat.reduceEqDiff, Nat.reduceMod, Nat.reduceDiv, Int.reduceNeg, Int.reduceLE, Int.reduceLT, Int.reduceToNat, Int.reduceEq, Int.reduceNe, ↓reduceIte,  Bool.not_true, hk0, decide_false, hs2, hs3, rebRow_len, hb]
      refine ih (s + 1) _ (by omega) (by omega) ?_
      set_option maxRecDepth 100000 in simp (maxSteps := 10000000) only [go_sem, Nat.reduceAdd, Nat.reduceSub, Nat.reduceMul, Nat.reduceLT, Nat.reduceLeDiff, Nat.reduceEqDiff, Nat.reduceMod, Nat.reduceDiv, Int.reduceNeg, Int.reduceLE, Int.reduceLT, Int.reduceToNat, Int.reduceEq, Int.reduceNe, ↓reduceIte,  wrap_succ (show s < 9223372036854775807 by omega), rebRow_succ hs2 hx]
set_option maxHeartbeats 8000000 in
theorem Rebuilt_4 (d : Disk) (hf : FitD d) (hn : d.n = 4) (u : Int) (hu : uE d u 2 true = 0) (hk : ¬ d.kind = 0) (hoth : ∀ s, s < d.sz → (d.others u.toNat s).isSome = true) : Ans Try.prog 26 [.agg (encDisk d), .int .i64 u] (.tup [.agg (encDisk (d.rebuilt u.toNat)), .int .i64 0]) := by
  obtain ⟨h0, ⟨hu0, hul⟩, hst⟩ := uE_zero hu
  have hO := okd_of h0
  have hz := hO.sz10
  have hk0 : (d.kind = 0) = False := eq_false hk
  have hue := unitErr_good d hf u 2 true
  rw [hu] at hue
  have hst2 : (d.at u.toNat).state = 2 := of_decide_eq_true hst
  have hsl := hO.len u.toNat hul (by rw [hst2]; decide)
  have hlens : ∀ j, j < d.n → (d.at j).secs.length ≤ 1000000 := fun j hj => by have := hf.m _ (nth_mem (l := d.units) hj); exact Nat.le_trans this (by decide)
  have how := owned_4 d.kind d.size (d.at 0) (d.at 1) (d.at 2) (d.at 3) (hlens 0 (by omega)) (hlens 1 (by omega)) (hlens 2 (by omega)) (hlens 3 (by omega))
  have hdd := units_4 hn
  rw [← hdd] at how
  have hcs : u = 0 ∨ u = 1 ∨ u = 2 ∨ u = 3 := by omega
  rcases hcs with rfl | rfl | rfl | rfl
  · have hE : AV.agg (encDisk (d.rebuilt (0 : Int).toNat)) = .agg [.int .i64 d.kind, .int .i64 d.size, .sl [[.int .i64 0, .sl (rebRow d 0 d.sz)], [.int .i64 (d.at 1).state, .sl ((d.at 1).secs.map encStr)], [.int .i64 (d.at 2).state, .sl ((d.at 2).secs.map encStr)], [.int .i64 (d.at 3).state, .sl ((d.at 3).secs.map encStr)]]] := by
      rw [rebRow_all]
      conv => lhs; unfold Disk.rebuilt
      conv => lhs; arg 1; arg 1; arg 3; arg 1; rw [show d.units = [d.at 0, d.at 1, d.at 2, d.at 3] from congrArg Disk.units hdd]
      rfl
    rw [hE]
    replace hsl : (d.at 0).secs.length = d.sz := hsl
    replace hoth : ∀ s, s < d.sz → (d.others 0 s).isSome = true := hoth
    have hrz := rebRow_zero hsl
    refine good_run [(3000014, [], [103000000000000001000019, 103000000000000001001019, 103000000000000001002019, 103000000000000001003019, 103000000000000001004019, 101000000000000000000019]), (6, [5, 8, 9, 10, 23, 24, 25, 26, 27, 28, 29, 30, 31, 32, 33, 34, 35, 36, 37, 38, 39, 40, 41, 42, 43, 44, 45, 46, 47, 48, 49], [])] mixed Try.func26 rfl Try.ntmps26 (rs := [.cell 4 24, .tmp 5]) rfl (by decide +kernel) (by kernel_rfl) rfl ?_
    rw [startE_eq 56 _ _ _ rfl rfl]
    set_option maxRecDepth 100000 in simp (maxSteps := 10000000) only [go_sem, Nat.reduceAdd, Nat.reduceSub, Nat.reduceMul, Nat.reduceLT, Nat.reduceLeDiff, Nat.reduceEqDiff, Nat.reduceMod, Nat.reduceDiv, Int.reduceNeg, Int.reduceLE, Int.reduceLT, Int.reduceToNat, Int.reduceEq, Int.reduceNe, ↓reduceIte]
    refine call_of (hue) ?_
    set_option maxRecDepth 100000 in simp (maxSteps := 10000000) only [go_sem, Nat.reduceAdd, Nat.reduceSub, Nat.reduceMul, Nat.reduceLT, Nat.reduceLeDiff, Nat.reduceEqDiff, Nat.reduceMod, Nat.reduceDiv, Int.reduceNeg, Int.reduceLE, Int.reduceLT, Int.reduceToNat, Int.reduceEq, Int.reduceNe, ↓reduceIte]
    refine callM_of [] [19, 30, 31, 32, 33] (how) ⟨rfl, rfl, rfl, by simp, by simp, by simp, by simp, rfl, rfl, rfl, onodup_of (l := [6, 12, 13, 14, 15]) rfl (by decide)⟩ ?_
    set_option maxRecDepth 100000 in simp (maxSteps := 10000000) only [go_sem, Nat.reduceAdd, Nat.reduceSub, Nat.reduceMul, Nat.reduceLT, Nat.reduceLeDiff, Nat.reduceEqDiff, Nat.reduceMod, Nat.reduceDiv, Int.reduceNeg, Int.reduceLE, Int.reduceLT, Int.reduceToNat, Int.reduceEq, Int.reduceNe, ↓reduceIte]
    refine loop_by ([5, 8, 9, 10, 23, 24, 25, 26, 27, 28, 29, 30, 31, 32, 33, 34, 35, 36, 37, 38, 39, 40, 41, 42, 43, 44, 45, 46, 47, 48, 49], []) (fun s : Nat => [(.s 22, .int .i64 (s : Int)), (.o 30, .obj 1 9 1 false true (rebRow d 0 s))]) (fun s => d.sz - s) (fun s => s ≤ d.sz) 0 rfl (Nat.zero_le _) ?_ ?_
    · set_option maxRecDepth 100000 in simp (maxSteps := 10000000) only [go_sem, Nat.reduceAdd, Nat.reduceSub, Nat.reduceMul, Nat.reduceLT, Nat.reduceLeDiff, Nat.reduceEqDiff, Nat.reduceMod, Nat.reduceDiv, Int.reduceNeg, Int.reduceLE, Int.reduceLT, Int.reduceToNat, Int.reduceEq, Int.reduceNe, ↓reduceIte,  hrz]
    rintro c' st' hst' s hs ih
    set_option maxRecDepth 100000 in simp (maxSteps := 10000000) only [go_sem, Nat.reduceAdd, Nat.reduceSub, Nat.reduceMul, Nat.reduceLT, Nat.reduceLeDiff, Nat.reduceEqDiff, Nat.reduceMod, Nat.reduceDiv, Int.reduceNeg, Int.reduceLE, Int.reduceLT, Int.reduceToNat, Int.reduceEq, Int.reduceNe, ↓reduceIte]
    refine ifI (fun hlt => ?_) fun hlt => ?_
    case refine_2 =>
      have hss : s = d.sz := by omega
      subst hst' hss
      set_option maxRecDepth 100000 in simp (maxSteps := 10000000) only [go_sem, Nat.reduceAdd, Nat.reduceSub, Nat.reduceMul, Nat.reduceLT, Nat.reduceLeDiff, Nat.reduceEqDiff, Nat.reduceMod, Nat.reduceDiv, Int.reduceNeg, Int.reduceLE, Int.reduceLT, Int.reduceToNat, Int.reduceEq, Int.reduceNe, ↓reduceIte,  hlt]
    have hs2 : s < d.sz := by omega
    have hs3 : (s : Int) < (d.sz : Int) := by omega
    have hsome := hoth s hs2
    have hot : Ans Try.prog 52 [.agg (encDisk d), .int .i64 0, .int .i64 (s : Int)] (othT d 0 s) := others_good d hO 0 s hs2
    unfold othT at hot
    cases hx : d.others 0 s with
    | none => rw [hx] at hsome; cases hsome
    | some x =>
      rw [hx] at hot
      obtain ⟨b, hb⟩ := rebRow_at (u := 0) hs2
      set_option maxRecDepth 100000 in simp (maxSteps := 10000000) only [go_sem, Nat.reduceAdd, Nat.reduceSub, Nat.reduceMul, Nat.reduceLT, Nat.reduceLeDiff, Nat.reduceEqDiff, Nat.reduceMod, Nat.reduceDiv, Int.reduceNeg, Int.reduceLE, Int.reduceLT, Int.reduceToNat, Int.reduceEq, Int.reduceNe, ↓reduceIte,  hlt]
      refine call_of (hot) ?_
      set_option maxRecDepth 100000 in simp (maxSteps := 10000000) only [go_sem, Nat.reduceAdd, Nat.reduceSub, Nat.reduceMul, Nat.reduceLT, Nat.reduceLeDiff, Nat.reduceEqDiff, Nat.reduceMod, Nat.reduceDiv, Int.reduceNeg, Int.reduceLE, Int.reduceLT, Int.reduceToNat, Int.reduceEq, Int.reduceNe, ↓reduceIte,  Bool.not_true, hk0, decide_false, hs2, hs3, rebRow_len, hb]
      refine ih (s + 1) _ (by omega) (by omega) ?_
      set_option maxRecDepth 100000 in simp (maxSteps := 10000000) only [go_sem, Nat.reduceAdd, Nat.reduceSub, Nat.reduceMul, Nat.reduceLT, Nat.reduceLeDiff, Nat.reduceEqDiff, Nat.reduceMod, Nat.reduceDiv, Int.reduceNeg, Int.reduceLE, Int.reduceLT, Int.reduceToNat, Int.reduceEq, Int.reduceNe, ↓reduceIte,  wrap_succ (show s < 9223372036854775807 by omega), rebRow_succ hs2 hx]
  · have hE : AV.agg (encDisk (d.rebuilt (1 : Int).toNat)) = .agg [.int .i64 d.kind, .int .i64 d.size, .sl [[.int .i64 (d.at 0).state, .sl ((d.at 0).secs.map encStr)], [.int .i64 0, .sl (rebRow d 1 d.sz)], [.int .i64 (d.at 2).state, .sl ((d.at 2).secs.map encStr)], [.int .i64 (d.at 3).state, .sl ((d.at 3).secs.map encStr)]]] := by
      rw [rebRow_all]
      conv => lhs; unfold Disk.rebuilt
      conv => lhs; arg 1; arg 1; arg 3; arg 1; rw [show d.units = [d.at 0, d.at 1, d.at 2, d.at 3] from congrArg Disk.units hdd]
      rfl
    rw [hE]
    replace hsl : (d.at 1).secs.length = d.sz := hsl
    replace hoth : ∀ s, s < d.sz → (d.others 1 s).isSome = true := hoth
    have hrz := rebRow_zero hsl
    refine good_run [(3000014, [], [103000000000000001000019, 103000000000000001001019, 103000000000000001002019, 103000000000000001003019, 103000000000000001004019, 101000000000000000000019]), (6, [5, 8, 9, 10, 23, 24, 25, 26, 27, 28, 29, 30, 31, 32, 33, 34, 35, 36, 37, 38, 39, 40, 41, 42, 43, 44, 45, 46, 47, 48, 49], [])] mixed Try.func26 rfl Try.ntmps26 (rs := [.cell 4 24, .tmp 5]) rfl (by decide +kernel) (by kernel_rfl) rfl ?_
    rw [startE_eq 56 _ _ _ rfl rfl]
    set_option maxRecDepth 100000 in simp (maxSteps := 10000000) only [go_sem, Nat.reduceAdd, Nat.reduceSub, Nat.reduceMul, Nat.reduceLT, Nat.reduceLeDiff, Nat.reduceEqDiff, Nat.reduceMod, Nat.reduceDiv, Int.reduceNeg, Int.reduceLE, Int.reduceLT, Int.reduceToNat, Int.reduceEq, Int.reduceNe, ↓reduceIte]
    refine call_of (hue) ?_
    set_option maxRecDepth 100000 in simp (maxSteps := 10000000) only [go_sem, Nat.reduceAdd, Nat.reduceSub, Nat.reduceMul, Nat.reduceLT, Nat.reduceLeDiff, Nat.reduceEqDiff, Nat.reduceMod, Nat.reduceDiv, Int.reduceNeg, Int.reduceLE, Int.reduceLT, Int.reduceToNat, Int.reduceEq, Int.reduceNe, ↓reduceIte]
    refine callM_of [] [19, 30, 31, 32, 33] (how) ⟨rfl, rfl, rfl, by simp, by simp, by simp, by simp, rfl, rfl, rfl, onodup_of (l := [6, 12, 13, 14, 15]) rfl (by decide)⟩ ?_
    set_option maxRecDepth 100000 in simp (maxSteps := 10000000) only [go_sem, Nat.reduceAdd, Nat.reduceSub, Nat.reduceMul, Nat.reduceLT, Nat.reduceLeDiff, Nat.reduceEqDiff, Nat.reduceMod, Nat.reduceDiv, Int.reduceNeg, Int.reduceLE, Int.reduceLT, Int.reduceToNat, Int.reduceEq, Int.reduceNe, ↓reduceIte]
    refine loop_by ([5, 8, 9, 10, 23, 24, 25, 26, 27, 28, 29, 30, 31, 32, 33, 34, 35, 36, 37, 38, 39, 40, 41, 42, 43, 44, 45, 46, 47, 48, 49], []) (fun s : Nat => [(.s 22, .int .i64 (s : Int)), (.o 31, .obj 1 9 1 false true (rebRow d 1 s))]) (fun s => d.sz - s) (fun s => s ≤ d.sz) 0 rfl (Nat.zero_le _) ?_ ?_
    · set_option maxRecDepth 100000 in simp (maxSteps := 10000000) only [go_sem, Nat.reduceAdd, Nat.reduceSub, Nat.reduceMul, Nat.reduceLT, Nat.reduceLeDiff, Nat.reduceEqDiff, Nat.reduceMod, Nat.reduceDiv, Int.reduceNeg, Int.reduceLE, Int.reduceLT, Int.reduceToNat, Int.reduceEq, Int.reduceNe, ↓reduceIte,  hrz]
    rintro c' st' hst' s hs ih
    set_option maxRecDepth 100000 in simp (maxSteps := 10000000) only [go_sem, Nat.reduceAdd, Nat.reduceSub, Nat.reduceMul, Nat.reduceLT, Nat.reduceLeDiff, Nat.reduceEqDiff, Nat.reduceMod, Nat.reduceDiv, Int.reduceNeg, Int.reduceLE, Int.reduceLT, Int.reduceToNat, Int.reduceEq, Int.reduceNe, ↓reduceIte]
    refine ifI (fun hlt => ?_) fun hlt => ?_
    case refine_2 =>
      have hss : s = d.sz := by omega
      subst hst' hss
      set_option maxRecDepth 100000 in simp (maxSteps := 10000000) only [go_sem, Nat.reduceAdd, Nat.reduceSub, Nat.reduceMul, Nat.reduceLT, Nat.reduceLeDiff, Nat.reduceEqDiff, Nat.reduceMod, Nat.reduceDiv, Int.reduceNeg, Int.reduceLE, Int.reduceLT, Int.reduceToNat, Int.reduceEq, Int.reduceNe, ↓reduceIte,  hlt]
    have hs2 : s < d.sz := by omega
    have hs3 : (s : Int) < (d.sz : Int) := by omega
    have hsome := hoth s hs2
    have hot : Ans Try.prog 52 [.agg (encDisk d), .int .i64 1, .int .i64 (s : Int)] (othT d 1 s) := others_good d hO 1 s hs2
    unfold othT at hot
    cases hx : d.others 1 s with
    | none => rw [hx] at hsome; cases hsome
    | some x =>
      rw [hx] at hot
      obtain ⟨b, hb⟩ := rebRow_at (u := 1) hs2
      set_option maxRecDepth 100000 in simp (maxSteps := 10000000) only [go_sem, Nat.reduceAdd, Nat.reduceSub, Nat.reduceMul, Nat.reduceLT, Nat.reduceLeDiff, Nat.reduceEqDiff, Nat.reduceMod, Nat.reduceDiv, Int.reduceNeg, Int.reduceLE, Int.reduceLT, Int.reduceToNat, Int.reduceEq, Int.reduceNe, ↓reduceIte,  hlt]
      refine call_of (hot) ?_
      set_option maxRecDepth 100000 in simp (maxSteps := 10000000) only [go_sem, Nat.reduceAdd, Nat.reduceSub, Nat.reduceMul, Nat.reduceLT, Nat.reduceLeDiff, Nat.reduceEqDiff, Nat.reduceMod, Nat.reduceDiv, Int.reduceNeg, Int.reduceLE, Int.reduceLT, Int.reduceToNat, Int.reduceEq, Int.reduceNe, ↓reduceIte,  Bool.not_true, hk0, decide_false, hs2, hs3, rebRow_len, hb]
      refine ih (s + 1) _ (by omega) (by omega) ?_
      set_option maxRecDepth 100000 in simp (maxSteps := 10000000) only [go_sem, Nat.reduceAdd, Nat.reduceSub, Nat.reduceMul, Nat.reduceLT, Nat.reduceLeDiff, Nat.reduceEqDiff, Nat.reduceMod, Nat.reduceDiv, Int.reduceNeg, Int.reduceLE, Int.reduceLT, Int.reduceToNat, Int.reduceEq, Int.reduceNe, ↓reduceIte,  wrap_succ (show s < 9223372036854775807 by omega), rebRow_succ hs2 hx]
  · have hE : AV.agg (encDisk (d.rebuilt (2 : Int).toNat)) = .agg [.int .i64 d.kind, .int .i64 d.size, .sl [[.int .i64 (d.at 0).state, .sl ((d.at 0).secs.map encStr)], [.int .i64 (d.at 1).state, .sl ((d.at 1).secs.map encStr)], [.int .i64 0, .sl (rebRow d 2 d.sz)], [.int .i64 (d.at 3).state, .sl ((d.at 3).secs.map encStr)]]] := by
      rw [rebRow_all]
      conv => lhs; unfold Disk.rebuilt
      conv => lhs; arg 1; arg 1; arg 3; arg 1; rw [show d.units = [d.at 0, d.at 1, d.at 2, d.at 3] from congrArg Disk.units hdd]
      rfl
    rw [hE]
    replace hsl : (d.at 2).secs.length = d.sz := hsl
    replace hoth : ∀ s, s < d.sz → (d.others 2 s).isSome = true := hoth
    have hrz := rebRow_zero hsl
    refine good_run [(3000014, [], [103000000000000001000019, 103000000000000001001019, 103000000000000001002019, 103000000000000001003019, 103000000000000001004019, 101000000000000000000019]), (6, [5, 8, 9, 10, 23, 24, 25, 26, 27, 28, 29, 30, 31, 32, 33, 34, 35, 36, 37, 38, 39, 40, 41, 42, 43, 44, 45, 46, 47, 48, 49], [])] mixed Try.func26 rfl Try.ntmps26 (rs := [.cell 4 24, .tmp 5]) rfl (by decide +kernel) (by kernel_rfl) rfl ?_
    rw [startE_eq 56 _ _ _ rfl rfl]
    set_option maxRecDepth 100000 in simp (maxSteps := 10000000) only [go_sem, Nat.reduceAdd, Nat.reduceSub, Nat.reduceMul, Nat.reduceLT, Nat.reduceLeDiff, Nat.reduceEqDiff, Nat.reduceMod, Nat.reduceDiv, Int.reduceNeg, Int.reduceLE, Int.reduceLT, Int.reduceToNat, Int.reduceEq, Int.reduceNe, ↓reduceIte]
    refine call_of (hue) ?_
    set_option maxRecDepth 100000 in simp (maxSteps := 10000000) only [go_sem, Nat.reduceAdd, Nat.reduceSub, Nat.reduceMul, Nat.reduceLT, Nat.reduceLeDiff, Nat.reduceEqDiff, Nat.reduceMod, Nat.reduceDiv, Int.reduceNeg, Int.reduceLE, Int.reduceLT, Int.reduceToNat, Int.reduceEq, Int.reduceNe, ↓reduceIte]
    refine callM_of [] [19, 30, 31, 32, 33] (how) ⟨rfl, rfl, rfl, by simp, by simp, by simp, by simp, rfl, rfl, rfl, onodup_of (l := [6, 12, 13, 14, 15]) rfl (by decide)⟩ ?_
    set_option maxRecDepth 100000 in simp (maxSteps := 10000000) only [go_sem, Nat.reduceAdd, Nat.reduceSub, Nat.reduceMul, Nat.reduceLT, Nat.reduceLeDiff, Nat.reduceEqDiff, Nat.reduceMod, Nat.reduceDiv, Int.reduceNeg, Int.reduceLE, Int.reduceLT, Int.reduceToNat, Int.reduceEq, Int.reduceNe, ↓reduceIte]
    refine loop_by ([5, 8, 9, 10, 23, 24, 25, 26, 27, 28, 29, 30, 31, 32, 33, 34, 35, 36, 37, 38, 39, 40, 41, 42, 43, 44, 45, 46, 47, 48, 49], []) (fun s : Nat => [(.s 22, .int .i64 (s : Int)), (.o 32, .obj 1 9 1 false true (rebRow d 2 s))]) (fun s => d.sz - s) (fun s => s ≤ d.sz) 0 rfl (Nat.zero_le _) ?_ ?_
    · set_option maxRecDepth 100000 in simp (maxSteps := 10000000) only [go_sem, Nat.reduceAdd, Nat.reduceSub, Nat.reduceMul, Nat.reduceLT, Nat.reduceLeDiff, Nat.reduceEqDiff, Nat.reduceMod, Nat.reduceDiv, Int.reduceNeg, Int.reduceLE, Int.reduceLT, Int.reduceToNat, Int.reduceEq, Int.reduceNe, ↓reduceIte,  hrz]
    rintro c' st' hst' s hs ih
    set_option maxRecDepth 100000 in simp (maxSteps := 10000000) only [go_sem, Nat.reduceAdd, Nat.reduceSub, Nat.reduceMul, Nat.reduceLT, Nat.reduceLeDiff, Nat.reduceEqDiff, Nat.reduceMod, Nat.reduceDiv, Int.reduceNeg, Int.reduceLE, Int.reduceLT, Int.reduceToNat, Int.reduceEq, Int.reduceNe, ↓reduceIte]
    refine ifI (fun hlt => ?_) fun hlt => ?_
    case refine_2 =>
      have hss : s = d.sz := by omega
      subst hst' hss
      set_option maxRecDepth 100000 in simp (maxSteps := 10000000) only [go_sem, Nat.reduceAdd, Nat.reduceSub, Nat.reduceMul, Nat.reduceLT, Nat.reduceLeDiff, Nat.reduceEqDiff, Nat.reduceMod, Nat.reduceDiv, Int.reduceNeg, Int.reduceLE, Int.reduceLT, Int.reduceToNat, Int.reduceEq, Int.reduceNe, ↓reduceIte,  hlt]
    have hs2 : s < d.sz := by omega
    have hs3 : (s : Int) < (d.sz : Int) := by omega
    have hsome := hoth s hs2
    have hot : Ans Try.prog 52 [.agg (encDisk d), .int .i64 2, .int .i64 (s : Int)] (othT d 2 s) := others_good d hO 2 s hs2
    unfold othT at hot
    cases hx : d.others 2 s with
    | none => rw [hx] at hsome; cases hsome
    | some x =>
      rw [hx] at hot
      obtain ⟨b, hb⟩ := rebRow_at (u := 2) hs2
      set_option maxRecDepth 100000 in simp (maxSteps := 10000000) only [go_sem, Nat.reduceAdd, Nat.reduceSub, Nat.reduceMul, Nat.reduceLT, Nat.reduceLeDiff, Nat.reduceEqDiff, Nat.reduceMod, Nat.reduceDiv, Int.reduceNeg, Int.reduceLE, Int.reduceLT, Int.reduceToNat, Int.reduceEq, Int.reduceNe, ↓reduceIte,  hlt]
      refine call_of (hot) ?_
      set_option maxRecDepth 100000 in simp (maxSteps := 10000000) only [go_sem, Nat.reduceAdd, Nat.reduceSub, Nat.reduceMul, Nat.reduceLT, Nat.reduceLeDiff, Nat.reduceEqDiff, Nat.reduceMod, Nat.reduceDiv, Int.reduceNeg, Int.reduceLE, Int.reduceLT, Int.reduceToNat, Int.reduceEq, Int.reduceNe, ↓reduceIte,  Bool.not_true, hk0, decide_false, hs2, hs3, rebRow_len, hb]
      refine ih (s + 1) _ (by omega) (by omega) ?_
      set_option maxRecDepth 100000 in simp (maxSteps := 10000000) only [go_sem, Nat.reduceAdd, Nat.reduceSub, Nat.reduceMul, Nat.reduceLT, Nat.reduceLeDiff, Nat.reduceEqDiff, Nat.reduceMod, Nat.reduceDiv, Int.reduceNeg, Int.reduceLE, Int.reduceLT, Int.reduceToNat, Int.reduceEq, Int.reduceNe, ↓reduceIte,  wrap_succ (show s < 9223372036854775807 by omega), rebRow_succ hs2 hx]
  · have hE : AV.agg (encDisk (d.rebuilt (3 : Int).toNat)) = .agg [.int .i64 d.kind, .int .i64 d.size, .sl [[.int .i64 (d.at 0).state, .sl ((d.at 0).secs.map encStr)], [.int .i64 (d.at 1).state, .sl ((d.at 1).secs.map encStr)], [.int .i64 (d.at 2).state, .sl ((d.at 2).secs.map encStr)], [.int .i64 0, .sl (rebRow d 3 d.sz)]]] := by
      rw [rebRow_all]
      conv => lhs; unfold Disk.rebuilt
      conv => lhs; arg 1; arg 1; arg 3; arg 1; rw [show d.units = [d.at 0, d.at 1, d.at 2, d.at 3] from congrArg Disk.units hdd]
      rfl
    rw [hE]
    replace hsl : (d.at 3).secs.length = d.sz := hsl
    replace hoth : ∀ s, s < d.sz → (d.others 3 s).isSome = true := hoth
    have hrz := rebRow_zero hsl
    refine good_run [(3000014, [], [103000000000000001000019, 103000000000000001001019, 103000000000000001002019, 103000000000000001003019, 103000000000000001004019, 101000000000000000000019]), (6, [5, 8, 9, 10, 23, 24, 25, 26, 27, 28, 29, 30, 31, 32, 33, 34, 35, 36, 37, 38, 39, 40, 41, 42, 43, 44, 45, 46, 47, 48, 49], [])] mixed Try.func26 rfl Try.ntmps26 (rs := [.cell 4 24, .tmp 5]) rfl (by decide +kernel) (by kernel_rfl) rfl ?_
    rw [startE_eq 56 _ _ _ rfl rfl]
    set_option maxRecDepth 100000 in simp (maxSteps := 10000000) only [go_sem, Nat.reduceAdd, Nat.reduceSub, Nat.reduceMul, Nat.reduceLT, Nat.reduceLeDiff, Nat.reduceEqDiff, Nat.reduceMod, Nat.reduceDiv, Int.reduceNeg, Int.reduceLE, Int.reduceLT, Int.reduceToNat, Int.reduceEq, Int.reduceNe, ↓reduceIte]
    refine call_of (hue) ?_
    set_option maxRecDepth 100000 in simp (maxSteps := 10000000) only [go_sem, Nat.reduceAdd, Nat.reduceSub, Nat.reduceMul, Nat.reduceLT, Nat.reduceLeDiff, Nat.reduceEqDiff, Nat.reduceMod, Nat.reduceDiv, Int.reduceNeg, Int.reduceLE, Int.reduceLT, Int.reduceToNat, Int.reduceEq, Int.reduceNe, ↓reduceIte]
    refine callM_of [] [19, 30, 31, 32, 33] (how) ⟨rfl, rfl, rfl, by simp, by simp, by simp, by simp, rfl, rfl, rfl, onodup_of (l := [6, 12, 13, 14, 15]) rfl (by decide)⟩ ?_
    set_option maxRecDepth 100000 in simp (maxSteps := 10000000) only [go_sem, Nat.reduceAdd, Nat.reduceSub, Nat.reduceMul, Nat.reduceLT, Nat.reduceLeDiff, Nat.reduceEqDiff, Nat.reduceMod, Nat.reduceDiv, Int.reduceNeg, Int.reduceLE, Int.reduceLT, Int.reduceToNat, Int.reduceEq, Int.reduceNe, ↓reduceIte]
    refine loop_by ([5, 8, 9, 10, 23, 24, 25, 26, 27, 28, 29, 30, 31, 32, 33, 34, 35, 36, 37, 38, 39, 40, 41, 42, 43, 44, 45, 46, 47, 48, 49], []) (fun s : Nat => [(.s 22, .int .i64 (s : Int)), (.o 33, .obj 1 9 1 false true (rebRow d 3 s))]) (fun s => d.sz - s) (fun s => s ≤ d.sz) 0 rfl (Nat.zero_le _) ?_ ?_
    · set_option maxRecDepth 100000 in simp (maxSteps := 10000000) only [go_sem, Nat.reduceAdd, Nat.reduceSub, Nat.reduceMul, Nat.reduceLT, Nat.reduceLeDiff, Nat.reduceEqDiff, Nat.reduceMod, Nat.reduceDiv, Int.reduceNeg, Int.reduceLE, Int.reduceLT, Int.reduceToNat, Int.reduceEq, Int.reduceNe, ↓reduceIte,  hrz]
    rintro c' st' hst' s hs ih
    set_option maxRecDepth 100000 in simp (maxSteps := 10000000) only [go_sem, Nat.reduceAdd, Nat.reduceSub, Nat.reduceMul, Nat.reduceLT, Nat.reduceLeDiff, Nat.reduceEqDiff, Nat.reduceMod, Nat.reduceDiv, Int.reduceNeg, Int.reduceLE, Int.reduceLT, Int.reduceToNat, Int.reduceEq, Int.reduceNe, ↓reduceIte]
    refine ifI (fun hlt => ?_) fun hlt => ?_
    case refine_2 =>
      have hss : s = d.sz := by omega
      subst hst' hss
      set_option maxRecDepth 100000 in simp (maxSteps := 10000000) only [go_sem, Nat.reduceAdd, Nat.reduceSub, Nat.reduceMul, Nat.reduceLT, Nat.reduceLeDiff, Nat.reduceEqDiff, Nat.reduceMod, Nat.reduceDiv, Int.reduceNeg, Int.reduceLE, Int.reduceLT, Int.reduceToNat, Int.reduceEq, Int.reduceNe, ↓reduceIte,  hlt]
    have hs2 : s < d.sz := by omega
    have hs3 : (s : Int) < (d.sz : Int) := by omega
    have hsome := hoth s hs2
    have hot : Ans Try.prog 52 [.agg (encDisk d), .int .i64 3, .int .i64 (s : Int)] (othT d 3 s) := others_good d hO 3 s hs2
    unfold othT at hot
    cases hx : d.others 3 s with
    | none => rw [hx] at hsome; cases hsome
    | some x =>
      rw [hx] at hot
      obtain ⟨b, hb⟩ := rebRow_at (u := 3) hs2
      set_option maxRecDepth 100000 in simp (maxSteps := 10000000) only [go_sem, Nat.reduceAdd, Nat.reduceSub, Nat.reduceMul, Nat.reduceLT, Nat.reduceLeDiff, Nat.reduceEqDiff, Nat.reduceMod, Nat.reduceDiv, Int.reduceNeg, Int.reduceLE, Int.reduceLT, Int.reduceToNat, Int.reduceEq, Int.reduceNe, ↓reduceIte,  hlt]
      refine call_of (hot) ?_
      set_option maxRecDepth 100000 in simp (maxSteps := 10000000) only [go_sem, Nat.reduceAdd, Nat.reduceSub, Nat.reduceMul, Nat.reduceLT, Nat.reduceLeDiff, Nat.reduceEqDiff, Nat.reduceMod, Nat.reduceDiv, Int.reduceNeg, Int.reduceLE, Int.reduceLT, Int.reduceToNat, Int.reduceEq, Int.reduceNe, ↓reduceIte,  Bool.not_true, hk0, decide_false, hs2, hs3, rebRow_len, hb]
      refine ih (s + 1) _ (by omega) (by omega) ?_
      set_option maxRecDepth 100000 in simp (maxSteps := 10000000) only [go_sem, Nat.reduceAdd, Nat.reduceSub, Nat.reduceMul, Nat.reduceLT, Nat.reduceLeDiff, Nat.reduceEqDiff, Nat.reduceMod, Nat.reduceDiv, Int.reduceNeg, Int.reduceLE, Int.reduceLT, Int.reduceToNat, Int.reduceEq, Int.reduceNe, ↓reduceIte,  wrap_succ (show s < 9223372036854775807 by omega), rebRow_succ hs2 hx]
set_option maxHeartbeats 8000000 in
theorem Rebuilt_5 (d : Disk) (hf : FitD d) (hn : d.n = 5) (u : Int) (hu : uE d u 2 true = 0) (hk : ¬ d.kind = 0) (hoth : ∀ s, s < d.sz → (d.others u.toNat s).isSome = true) : Ans Try.prog 26 [.agg (encDisk d), .int .i64 u] (.tup [.agg (encDisk (d.rebuilt u.toNat)), .int .i64 0]) := by
  obtain ⟨h0, ⟨hu0, hul⟩, hst⟩ := uE_zero hu
  have hO := okd_of h0
  have hz := hO.sz10
  have hk0 : (d.kind = 0) = False := eq_false hk
  have hue := unitErr_good d hf u 2 true
  rw [hu] at hue
  have hst2 : (d.at u.toNat).state = 2 := of_decide_eq_true hst
  have hsl := hO.len u.toNat hul (by rw [hst2]; decide)
  have hlens : ∀ j, j < d.n → (d.at j).secs.length ≤ 1000000 := fun j hj => by have := hf.m _ (nth_mem (l := d.units) hj); exact Nat.le_trans this (by decide)
  have how := owned_5 d.kind d.size (d.at 0) (d.at 1) (d.at 2) (d.at 3) (d.at 4) (hlens 0 (by omega)) (hlens 1 (by omega)) (hlens 2 (by omega)) (hlens 3 (by omega)) (hlens 4 (by omega))
  have hdd := units_5 hn
  rw [← hdd] at how
  have hcs : u = 0 ∨ u = 1 ∨ u = 2 ∨ u = 3 ∨ u = 4 := by omega
  rcases hcs with rfl | rfl | rfl | rfl | rfl
  · have hE : AV.agg (encDisk (d.rebuilt (0 : Int).toNat)) = .agg [.int .i64 d.kind, .int .i64 d.size, .sl [[.int .i64 0, .sl (rebRow d 0 d.sz)], [.int .i64 (d.at 1).state, .sl ((d.at 1).secs.map encStr)], [.int .i64 (d.at 2).state, .sl ((d.at 2).secs.map encStr)], [.int .i64 (d.at 3).state, .sl ((d.at 3).secs.map encStr)], [.int .i64 (d.at 4).state, .sl ((d.at 4).secs.map encStr)]]] := by
      rw [rebRow_all]
      conv => lhs; unfold Disk.rebuilt
      conv => lhs; arg 1; arg 1; arg 3; arg 1; rw [show d.units = [d.at 0, d.at 1, d.at 2, d.at 3, d.at 4] from congrArg Disk.units hdd]
      rfl
    rw [hE]
    replace hsl : (d.at 0).secs.length = d.sz := hsl
    replace hoth : ∀ s, s < d.sz → (d.others 0 s).isSome = true := hoth
    have hrz := rebRow_zero hsl
    refine good_run [(3000014, [], [103000000000000001000019, 103000000000000001001019, 103000000000000001002019, 103000000000000001003019, 103000000000000001004019, 101000000000000000000019]), (6, [5, 8, 9, 10, 23, 24, 25, 26, 27, 28, 29, 30, 31, 32, 33, 34, 35, 36, 37, 38, 39, 40, 41, 42, 43, 44, 45, 46, 47, 48, 49], [])] mixed Try.func26 rfl Try.ntmps26 (rs := [.cell 4 24, .tmp 5]) rfl (by decide +kernel) (by kernel_rfl) rfl ?_
    rw [startE_eq 56 _ _ _ rfl rfl]
    set_option maxRecDepth 100000 in simp (maxSteps := 10000000) only [go_sem, Nat.reduceAdd, Nat.reduceSub, Nat.reduceMul, Nat.reduceLT, Nat.reduceLeDiff, Nat.reduceEqDiff, Nat.reduceMod, Nat.reduceDiv, Int.reduceNeg, Int.reduceLE, Int.reduceLT, Int.reduceToNat, Int.reduceEq, Int.reduceNe, ↓reduceIte]
    refine call_of (hue) ?_
    set_option maxRecDepth 100000 in simp (maxSteps := 10000000) only [go_sem, Nat.reduceAdd, Nat.reduceSub, Nat.reduceMul, Nat.reduceLT, Nat.reduceLeDiff, Nat.reduceEqDiff, Nat.reduceMod, Nat.reduceDiv, Int.reduceNeg, Int.reduceLE, Int.reduceLT, Int.reduceToNat, Int.reduceEq, Int.reduceNe, ↓reduceIte]
    refine callM_of [] [19, 30, 31, 32, 33, 34] (how) ⟨rfl, rfl, rfl, by simp, by simp, by simp, by simp, rfl, rfl, rfl, onodup_of (l := [6, 12, 13, 14, 15, 16]) rfl (by decide)⟩ ?_
    set_option maxRecDepth 100000 in simp (maxSteps := 10000000) only [go_sem, Nat.reduceAdd, Nat.reduceSub, Nat.reduceMul, Nat.reduceLT, Nat.reduceLeDiff, Nat.reduceEqDiff, Nat.reduceMod, Nat.reduceDiv, Int.reduceNeg, Int.reduceLE, Int.reduceLT, Int.reduceToNat, Int.reduceEq, Int.reduceNe, ↓reduceIte]
    refine loop_by ([5, 8, 9, 10, 23, 24, 25, 26, 27, 28, 29, 30, 31, 32, 33, 34, 35, 36, 37, 38, 39, 40, 41, 42, 43, 44, 45, 46, 47, 48, 49], []) (fun s : Nat => [(.s 22, .int .i64 (s : Int)), (.o 30, .obj 1 9 1 false true (rebRow d 0 s))]) (fun s => d.sz - s) (fun s => s ≤ d.sz) 0 rfl (Nat.zero_le _) ?_ ?_
    · set_option maxRecDepth 100000 in simp (maxSteps := 10000000) only [go_sem, Nat.reduceAdd, Nat.reduceSub, Nat.reduceMul, Nat.reduceLT, Nat.reduceLeDiff, Nat.reduceEqDiff, Nat.reduceMod, Nat.reduceDiv, Int.reduceNeg, Int.reduceLE, Int.reduceLT, Int.reduceToNat, Int.reduceEq, Int.reduceNe, ↓reduceIte,  hrz]
    rintro c' st' hst' s hs ih
    set_option maxRecDepth 100000 in simp (maxSteps := 10000000) only [go_sem, Nat.reduceAdd, Nat.reduceSub, Nat.reduceMul, Nat.reduceLT, Nat.reduceLeDiff, Nat.reduceEqDiff, Nat.reduceMod, Nat.reduceDiv, Int.reduceNeg, Int.reduceLE, Int.reduceLT, Int.reduceToNat, Int.reduceEq, Int.reduceNe, ↓reduceIte]
    refine ifI (fun hlt => ?_) fun hlt => ?_
    case refine_2 =>
      have hss : s = d.sz := by omega
      subst hst' hss
      set_option maxRecDepth 100000 in simp (maxSteps := 10000000) only [go_sem, Nat.reduceAdd, Nat.reduceSub, Nat.reduceMul, Nat.reduceLT, Nat.reduceLeDiff, Nat.reduceEqDiff, Nat.reduceMod, Nat.reduceDiv, Int.reduceNeg, Int.reduceLE, Int.reduceLT, Int.reduceToNat, Int.reduceEq, Int.reduceNe, ↓reduceIte,  hlt]
    have hs2 : s < d.sz := by omega
    have hs3 : (s : Int) < (d.sz : Int) := by omega
    have hsome := hoth s hs2
    have hot : Ans Try.prog 52 [.agg (encDisk d), .int .i64 0, .int .i64 (s : Int)] (othT d 0 s) := others_good d hO 0 s hs2
    unfold othT at hot
    cases hx : d.others 0 s with
    | none => rw [hx] at hsome; cases hsome
    | some x =>
      rw [hx] at hot
      obtain ⟨b, hb⟩ := rebRow_at (u := 0) hs2
      set_option maxRecDepth 100000 in simp (maxSteps := 10000000) only [go_sem, Nat.reduceAdd, Nat.reduceSub, Nat.reduceMul, Nat.reduceLT, Nat.reduceLeDiff, Nat.reduceEqDiff, Nat.reduceMod, Nat.reduceDiv, Int.reduceNeg, Int.reduceLE, Int.reduceLT, Int.reduceToNat, Int.reduceEq, Int.reduceNe, ↓reduceIte,  hlt]
      refine call_of (hot) ?_
      set_option maxRecDepth 100000 in simp (maxSteps := 10000000) only [go_sem, Nat.reduceAdd, Nat.reduceSub, Nat.reduceMul, Nat.reduceLT, Nat.reduceLeDiff, Nat.reduceEqDiff, Nat.reduceMod, Nat.reduceDiv, Int.reduceNeg, Int.reduceLE, Int.reduceLT, Int.reduceToNat, Int.reduceEq, Int.reduceNe, ↓reduceIte,  Bool.not_true, hk0, decide_false, hs2, hs3, rebRow_len, hb]
      refine ih (s + 1) _ (by omega) (by omega) ?_
      set_option maxRecDepth 100000 in simp (maxSteps := 10000000) only [go_sem, Nat.reduceAdd, Nat.reduceSub, Nat.reduceMul, Nat.reduceLT, Nat.reduceLeDiff, Nat.reduceEqDiff, Nat.reduceMod, Nat.reduceDiv, Int.reduceNeg, Int.reduceLE, Int.reduceLT, Int.reduceToNat, Int.reduceEq, Int.reduceNe, ↓reduceIte,  wrap_succ (show s < 9223372036854775807 by omega), rebRow_succ hs2 hx]
  · have hE : AV.agg (encDisk (d.rebuilt (1 : Int).toNat)) = .agg [.int .i64 d.kind, .int .i64 d.size, .sl [[.int .i64 (d.at 0).state, .sl ((d.at 0).secs.map encStr)], [.int .i64 0, .sl (rebRow d 1 d.sz)], [.int .i64 (d.at 2).state, .sl ((d.at 2).secs.map encStr)], [.int .i64 (d.at 3).state, .sl ((d.at 3).secs.map encStr)], [.int .i64 (d.at 4).state, .sl ((d.at 4).secs.map encStr)]]] := by
      rw [rebRow_all]
      conv => lhs; unfold Disk.rebuilt
      conv => lhs; arg 1; arg 1; arg 3; arg 1; rw [show d.units = [d.at 0, d.at 1, d.at 2, d.at 3, d.at 4] from congrArg Disk.units hdd]
      rfl
    rw [hE]
    replace hsl : (d.at 1).secs.length = d.sz := hsl
    replace hoth : ∀ s, s < d.sz → (d.others 1 s).isSome = true := hoth
    have hrz := rebRow_zero hsl
    refine good_run [(3000014, [], [103000000000000001000019, 103000000000000001001019, 103000000000000001002019, 103000000000000001003019, 103000000000000001004019, 101000000000000000000019]), (6, [5, 8, 9, 10, 23, 24, 25, 26, 27, 28, 29, 30, 31, 32, 33, 34, 35, 36, 37, 38, 39, 40, 41, 42, 43, 44, 45, 46, 47, 48, 49], [])] mixed Try.func26 rfl Try.ntmps26 (rs := [.cell 4 24, .tmp 5]) rfl (by decide +kernel) (by kernel_rfl) rfl ?_
    rw [startE_eq 56 _ _ _ rfl rfl]
    set_option maxRecDepth 100000 in simp (maxSteps := 10000000) only [go_sem, Nat.reduceAdd, Nat.reduceSub, Nat.reduceMul, Nat.reduceLT, Nat.reduceLeDiff, Nat.reduceEqDiff, Nat.reduceMod, Nat.reduceDiv, Int.reduceNeg, Int.reduceLE, Int.reduceLT, Int.reduceToNat, Int.reduceEq, Int.reduceNe, ↓reduceIte]
    refine call_of (hue) ?_
    set_option maxRecDepth 100000 in simp (maxSteps := 10000000) only [go_sem, Nat.reduceAdd, Nat.reduceSub, Nat.reduceMul, Nat.reduceLT, Nat.reduceLeDiff, Nat.reduceEqDiff, Nat.reduceMod, Nat.reduceDiv, Int.reduceNeg, Int.reduceLE, Int.reduceLT, Int.reduceToNat, Int.reduceEq, Int.reduceNe, ↓reduceIte]
    refine callM_of [] [19, 30, 31, 32, 33, 34] (how) ⟨rfl, rfl, rfl, by simp, by simp, by simp, by simp, rfl, rfl, rfl, onodup_of (l := [6, 12, 13, 14, 15, 16]) rfl (by decide)⟩ ?_
    set_option maxRecDepth 100000 in simp (maxSteps := 10000000) only [go_sem, Nat.reduceAdd, Nat.reduceSub, Nat.reduceMul, Nat.reduceLT, Nat.reduceLeDiff, Nat.reduceEqDiff, Nat.reduceMod, Nat.reduceDiv, Int.reduceNeg, Int.reduceLE, Int.reduceLT, Int.reduceToNat, Int.reduceEq, Int.reduceNe, ↓reduceIte]
    refine loop_by ([5, 8, 9, 10, 23, 24, 25, 26, 27, 28, 29, 30, 31, 32, 33, 34, 35, 36, 37, 38, 39, 40, 41, 42, 43, 44, 45, 46, 47, 48, 49], []) (fun s : Nat => [(.s 22, .int .i64 (s : Int)), (.o 31, .obj 1 9 1 false true (rebRow d 1 s))]) (fun s => d.sz - s) (fun s => s ≤ d.sz) 0 rfl (Nat.zero_le _) ?_ ?_
    · set_option maxRecDepth 100000 in simp (maxSteps := 10000000) only [go_sem, Nat.reduceAdd, Nat.reduceSub, Nat.reduceMul, Nat.reduceLT, Nat.reduceLeDiff, Nat.reduceEqDiff, Nat.reduceMod, Nat.reduceDiv, Int.reduceNeg, Int.reduceLE, Int.reduceLT, Int.reduceToNat, Int.reduceEq, Int.reduceNe, ↓reduceIte,  hrz]
    rintro c' st' hst' s hs ih
    set_option maxRecDepth 100000 in simp (maxSteps := 10000000) only [go_sem, Nat.reduceAdd, Nat.reduceSub, Nat.reduceMul, Nat.reduceLT, Nat.reduceLeDiff, Nat.reduceEqDiff, Nat.reduceMod, Nat.reduceDiv, Int.reduceNeg, Int.reduceLE, Int.reduceLT, Int.reduceToNat, Int.reduceEq, Int.reduceNe, ↓reduceIte]
    refine ifI (fun hlt => ?_) fun hlt => ?_
    case refine_2 =>
      have hss : s = d.sz := by omega
      subst hst' hss
      set_option maxRecDepth 100000 in simp (maxSteps := 10000000) only [go_sem, Nat.reduceAdd, Nat.reduceSub, Nat.reduceMul, Nat.reduceLT, Nat.reduceLeDiff, Nat.reduceEqDiff, Nat.reduceMod, Nat.reduceDiv, Int.reduceNeg, Int.reduceLE, Int.reduceLT, Int.reduceToNat, Int.reduceEq, Int.reduceNe, ↓reduceIte,  hlt]
    have hs2 : s < d.sz := by omega
    have hs3 : (s : Int) < (d.sz : Int) := by omega
    have hsome := hoth s hs2
    have hot : Ans Try.prog 52 [.agg (encDisk d), .int .i64 1, .int .i64 (s : Int)] (othT d 1 s) := others_good d hO 1 s hs2
    unfold othT at hot
    cases hx : d.others 1 s with
    | none => rw [hx] at hsome; cases hsome
    | some x =>
      rw [hx] at hot
      obtain ⟨b, hb⟩ := rebRow_at (u := 1) hs2
      set_option maxRecDepth 100000 in simp (maxSteps := 10000000) only [go_sem, Nat.reduceAdd, Nat.reduceSub, Nat.reduceMul, Nat.reduceLT, Nat.reduceLeDiff, Nat.reduceEqDiff, Nat.reduceMod, Nat.reduceDiv, Int.reduceNeg, Int.reduceLE, Int.reduceLT, Int.reduceToNat, Int.reduceEq, Int.reduceNe, ↓reduceIte,  hlt]
      refine call_of (hot) ?_
      set_option maxRecDepth 100000 in simp (maxSteps := 10000000) only [go_sem, Nat.reduceAdd, Nat.reduceSub, Nat.reduceMul, Nat.reduceLT, Nat.reduceLeDiff, Nat.reduceEqDiff, Nat.reduceMod, Nat.reduceDiv, Int.reduceNeg, Int.reduceLE, Int.reduceLT, Int.reduceToNat, Int.reduceEq, Int.reduceNe, ↓reduceIte,  Bool.not_true, hk0, decide_false, hs2, hs3, rebRow_len, hb]
      refine ih (s + 1) _ (by omega) (by omega) ?_
      set_option maxRecDepth 100000 in simp (maxSteps := 10000000) only [go_sem, Nat.reduceAdd, Nat.reduceSub, Nat.reduceMul, Nat.reduceLT, Nat.reduceLeDiff, Nat.reduceEqDiff, Nat.reduceMod, Nat.reduceDiv, Int.reduceNeg, Int.reduceLE, Int.reduceLT, Int.reduceToNat, Int.reduceEq, Int.reduceNe, ↓reduceIte,  wrap_succ (show s < 9223372036854775807 by omega), rebRow_succ hs2 hx]
  · have hE : AV.agg (encDisk (d.rebuilt (2 : Int).toNat)) = .agg [.int .i64 d.kind, .int .i64 d.size, .sl [[.int .i64 (d.at 0).state, .sl ((d.at 0).secs.map encStr)], [.int .i64 (d.at 1).state, .sl ((d.at 1).secs.map encStr)], [.int .i64 0, .sl (rebRow d 2 d.sz)], [.int .i64 (d.at 3).state, .sl ((d.at 3).secs.map encStr)], [.int .i64 (d.at 4).state, .sl ((d.at 4).secs.map encStr)]]] := by
      rw [rebRow_all]
      conv => lhs; unfold Disk.rebuilt
      conv => lhs; arg 1; arg 1; arg 3; arg 1; rw [show d.units = [d.at 0, d.at 1, d.at 2, d.at 3, d.at 4] from congrArg Disk.units hdd]
      rfl
    rw [hE]
    replace hsl : (d.at 2).secs.length = d.sz := hsl
    replace hoth : ∀ s, s < d.sz → (d.others 2 s).isSome = true := hoth
    have hrz := rebRow_zero hsl
    refine good_run [(3000014, [], [103000000000000001000019, 103000000000000001001019, 103000000000000001002019, 103000000000000001003019, 103000000000000001004019, 101000000000000000000019]), (6, [5, 8, 9, 10, 23, 24, 25, 26, 27, 28, 29, 30, 31, 32, 33, 34, 35, 36, 37, 38, 39, 40, 41, 42, 43, 44, 45, 46, 47, 48, 49], [])] mixed Try.func26 rfl Try.ntmps26 (rs := [.cell 4 24, .tmp 5]) rfl (by decide +kernel) (by kernel_rfl) rfl ?_
    rw [startE_eq 56 _ _ _ rfl rfl]
    set_option maxRecDepth 100000 in simp (maxSteps := 10000000) only [go_sem, Nat.reduceAdd, Nat.reduceSub, Nat.reduceMul, Nat.reduceLT, Nat.reduceLeDiff, Nat.reduceEqDiff, Nat.reduceMod, Nat.reduceDiv, Int.reduceNeg, Int.reduceLE, Int.reduceLT, Int.reduceToNat, Int.reduceEq, Int.reduceNe, ↓reduceIte]
    refine call_of (hue) ?_
    set_option maxRecDepth 100000 in simp (maxSteps := 10000000) only [go_sem, Nat.reduceAdd, Nat.reduceSub, Nat.reduceMul, Nat.reduceLT, Nat.reduceLeDiff, Nat.reduceEqDiff, Nat.reduceMod, Nat.reduceDiv, Int.reduceNeg, Int.reduceLE, Int.reduceLT, Int.reduceToNat, Int.reduceEq, Int.reduceNe, ↓reduceIte]
    refine callM_of [] [19, 30, 31, 32, 33, 34] (how) ⟨rfl, rfl, rfl, by simp, by simp, by simp, by simp, rfl, rfl, rfl, onodup_of (l := [6, 12, 13, 14, 15, 16]) rfl (by decide)⟩ ?_
    set_option maxRecDepth 100000 in simp (maxSteps := 10000000) only [go_sem, Nat.reduceAdd, Nat.reduceSub, Nat.reduceMul, Nat.reduceLT, Nat.reduceLeDiff, Nat.reduceEqDiff, Nat.reduceMod, Nat.reduceDiv, Int.reduceNeg, Int.reduceLE, Int.reduceLT, Int.reduceToNat, Int.reduceEq, Int.reduceNe, ↓reduceIte]
    refine loop_by ([5, 8, 9, 10, 23, 24, 25, 26, 27, 28, 29, 30, 31, 32, 33, 34, 35, 36, 37, 38, 39, 40, 41, 42, 43, 44, 45, 46, 47, 48, 49], []) (fun s : Nat => [(.s 22, .int .i64 (s : Int)), (.o 32, .obj 1 9 1 false true (rebRow d 2 s))]) (fun s => d.sz - s) (fun s => s ≤ d.sz) 0 rfl (Nat.zero_le _) ?_ ?_
    · set_option maxRecDepth 100000 in simp (maxSteps := 10000000) only [go_sem, Nat.reduceAdd, Nat.reduceSub, Nat.reduceMul, Nat.reduceLT, Nat.reduceLeDiff, Nat.reduceEqDiff, Nat.reduceMod, Nat.reduceDiv, Int.reduceNeg, Int.reduceLE, Int.reduceLT, Int.reduceToNat, Int.reduceEq, Int.reduceNe, ↓reduceIte,  hrz]
    rintro c' st' hst' s hs ih
    set_option maxRecDepth 100000 in simp (maxSteps := 10000000) only [go_sem, Nat.reduceAdd, Nat.reduceSub, Nat.reduceMul, Nat.reduceLT, Nat.reduceLeDiff, Nat.reduceEqDiff, Nat.reduceMod, Nat.reduceDiv, Int.reduceNeg, Int.reduceLE, Int.reduceLT, Int.reduceToNat, Int.reduceEq, Int.reduceNe, ↓reduceIte]
    refine ifI (fun hlt => ?_) fun hlt => ?_
    case refine_2 =>
      have hss : s = d.sz := by omega
      subst hst' hss
      set_option maxRecDepth 100000 in simp (maxSteps := 10000000) only [go_sem, Nat.reduceAdd, Nat.reduceSub, Nat.reduceMul, Nat.reduceLT, Nat.reduceLeDiff, Nat.reduceEqDiff, Nat.reduceMod, Nat.reduceDiv, Int.reduceNeg, Int.reduceLE, Int.reduceLT, Int.reduceToNat, Int.reduceEq, Int.reduceNe, ↓reduceIte,  hlt]
    have hs2 : s < d.sz := by omega
    have hs3 : (s : Int) < (d.sz : Int) := by omega
    have hsome := hoth s hs2
    have hot : Ans Try.prog 52 [.agg (encDisk d), .int .i64 2, .int .i64 (s : Int)] (othT d 2 s) := others_good d hO 2 s hs2
    unfold othT at hot
    cases hx : d.others 2 s with
    | none => rw [hx] at hsome; cases hsome
    | some x =>
      rw [hx] at hot
      obtain ⟨b, hb⟩ := rebRow_at (u := 2) hs2
      set_option maxRecDepth 100000 in simp (maxSteps := 10000000) only [go_sem, Nat.reduceAdd, Nat.reduceSub, Nat.reduceMul, Nat.reduceLT, Nat.reduceLeDiff, Nat.reduceEqDiff, Nat.reduceMod, Nat.reduceDiv, Int.reduceNeg, Int.reduceLE, Int.reduceLT, Int.reduceToNat, Int.reduceEq, Int.reduceNe, ↓reduceIte,  hlt]
      refine call_of (hot) ?_
      set_option maxRecDepth 100000 in simp (maxSteps := 10000000) only [go_sem, Nat.reduceAdd, Nat.reduceSub, Nat.reduceMul, Nat.reduceLT, Nat.reduceLeDiff, Nat.reduceEqDiff, Nat.reduceMod, Nat.reduceDiv, Int.reduceNeg, Int.reduceLE, Int.reduceLT, Int.reduceToNat, Int.reduceEq, Int.reduceNe, ↓reduceIte,  Bool.not_true, hk0, decide_false, hs2, hs3, rebRow_len, hb]
      refine ih (s + 1) _ (by omega) (by omega) ?_
      set_option maxRecDepth 100000 in simp (maxSteps := 10000000) only [go_sem, Nat.reduceAdd, Nat.reduceSub, Nat.reduceMul, Nat.reduceLT, Nat.reduceLeDiff, Nat.reduceEqDiff, Nat.reduceMod, Nat.reduceDiv, Int.reduceNeg, Int.reduceLE, Int.reduceLT, Int.reduceToNat, Int.reduceEq, Int.reduceNe, ↓reduceIte,  wrap_succ (show s < 9223372036854775807 by omega), rebRow_succ hs2 hx]
  · have hE : AV.agg (encDisk (d.rebuilt (3 : Int).toNat)) = .agg [.int .i64 d.kind, .int .i64 d.size, .sl [[.int .i64 (d.at 0).state, .sl ((d.at 0).secs.map encStr)], [.int .i64 (d.at 1).state, .sl ((d.at 1).secs.map encStr)], [.int .i64 (d.at 2).state, .sl ((d.at 2).secs.map encStr)], [.int .i64 0, .sl (rebRow d 3 d.sz)], [.int .i64 (d.at 4).state, .sl ((d.at 4).secs.map encStr)]]] := by
      rw [rebRow_all]
      conv => lhs; unfold Disk.rebuilt
      conv => lhs; arg 1; arg 1; arg 3; arg 1; rw [show d.units = [d.at 0, d.at 1, d.at 2, d.at 3, d.at 4] from congrArg Disk.units hdd]
      rfl
    rw [hE]
    replace hsl : (d.at 3).secs.length = d.sz := hsl
    replace hoth : ∀ s, s < d.sz → (d.others 3 s).isSome = true := hoth
    have hrz := rebRow_zero hsl
    refine good_run [(3000014, [], [103000000000000001000019, 103000000000000001001019, 103000000000000001002019, 103000000000000001003019, 103000000000000001004019, 101000000000000000000019]), (6, [5, 8, 9, 10, 23, 24, 25, 26, 27, 28, 29, 30, 31, 32, 33, 34, 35, 36, 37, 38, 39, 40, 41, 42, 43, 44, 45, 46, 47, 48, 49], [])] mixed Try.func26 rfl Try.ntmps26 (rs := [.cell 4 24, .tmp 5]) rfl (by decide +kernel) (by kernel_rfl) rfl ?_
    rw [startE_eq 56 _ _ _ rfl rfl]
    set_option maxRecDepth 100000 in simp (maxSteps := 10000000) only [go_sem, Nat.reduceAdd, Nat.reduceSub, Nat.reduceMul, Nat.reduceLT, Nat.reduceLeDiff, Nat.reduceEqDiff, Nat.reduceMod, Nat.reduceDiv, Int.reduceNeg, Int.reduceLE, Int.reduceLT, Int.reduceToNat, Int.reduceEq, Int.reduceNe, ↓reduceIte]
    refine call_of (hue) ?_
    set_option maxRecDepth 100000 in simp (maxSteps := 10000000) only [go_sem, Nat.reduceAdd, Nat.reduceSub, Nat.reduceMul, Nat.reduceLT, Nat.reduceLeDiff, Nat.reduceEqDiff, Nat.reduceMod, Nat.reduceDiv, Int.reduceNeg, Int.reduceLE, Int.reduceLT, Int.reduceToNat, Int.reduceEq, Int.reduceNe, ↓reduceIte]
    refine callM_of [] [19, 30, 31, 32, 33, 34] (how) ⟨rfl, rfl, rfl, by simp, by simp, by simp, by simp, rfl, rfl, rfl, onodup_of (l := [6, 12, 13, 14, 15, 16]) rfl (by decide)⟩ ?_
    set_option maxRecDepth 100000 in simp (maxSteps := 10000000) only [go_sem, Nat.reduceAdd, Nat.reduceSub, Nat.reduceMul, Nat.reduceLT, Nat.reduceLeDiff, Nat.reduceEqDiff, Nat.reduceMod, Nat.reduceDiv, Int.reduceNeg, Int.reduceLE, Int.reduceLT, Int.reduceToNat, Int.reduceEq, Int.reduceNe, ↓reduceIte]
    refine loop_by ([5, 8, 9, 10, 23, 24, 25, 26, 27, 28, 29, 30, 31, 32, 33, 34, 35, 36, 37, 38, 39, 40, 41, 42, 43, 44, 45, 46, 47, 48, 49], []) (fun s : Nat => [(.s 22, .int .i64 (s : Int)), (.o 33, .obj 1 9 1 false true (rebRow d 3 s))]) (fun s => d.sz - s) (fun s => s ≤ d.sz) 0 rfl (Nat.zero_le _) ?_ ?_
    · set_option maxRecDepth 100000 in simp (maxSteps := 10000000) only [go_sem, Nat.reduceAdd, Nat.reduceSub, Nat.reduceMul, Nat.reduceLT, Nat.reduceLeDiff, Nat.reduceEqDiff, Nat.reduceMod, Nat.reduceDiv, Int.reduceNeg, Int.reduceLE, Int.reduceLT, Int.reduceToNat, Int.reduceEq, Int.reduceNe, ↓reduceIte,  hrz]
    rintro c' st' hst' s hs ih
    set_option maxRecDepth 100000 in simp (maxSteps := 10000000) only [go_sem, Nat.reduceAdd, Nat.reduceSub, Nat.reduceMul, Nat.reduceLT, Nat.reduceLeDiff, Nat.reduceEqDiff, Nat.reduceMod, Nat.reduceDiv, Int.reduceNeg, Int.reduceLE, Int.reduceLT, Int.reduceToNat, Int.reduceEq, Int.reduceNe, ↓reduceIte]
    refine ifI (fun hlt => ?_) fun hlt => ?_
    case refine_2 =>
      have hss : s = d.sz := by omega
      subst hst' hss
      set_option maxRecDepth 100000 in simp (maxSteps := 10000000) only [go_sem, Nat.reduceAdd, Nat.reduceSub, Nat.reduceMul, Nat.reduceLT, Nat.reduceLeDiff, Nat.reduceEqDiff, Nat.reduceMod, Nat.reduceDiv, Int.reduceNeg, Int.reduceLE, Int.reduceLT, Int.reduceToNat, Int.reduceEq, Int.reduceNe, ↓reduceIte,  hlt]
    have hs2 : s < d.sz := by omega
    have hs3 : (s : Int) < (d.sz : Int) := by omega
    have hsome := hoth s hs2
    have hot : Ans Try.prog 52 [.agg (encDisk d), .int .i64 3, .int .i64 (s : Int)] (othT d 3 s) := others_good d hO 3 s hs2
    unfold othT at hot
    cases hx : d.others 3 s with
    | none => rw [hx] at hsome; cases hsome
    | some x =>
      rw [hx] at hot
      obtain ⟨b, hb⟩ := rebRow_at (u := 3) hs2
      set_option maxRecDepth 100000 in simp (maxSteps := 10000000) only [go_sem, Nat.reduceAdd, Nat.reduceSub, Nat.reduceMul, Nat.reduceLT, Nat.reduceLeDiff, Nat.reduceEqDiff, Nat.reduceMod, Nat.reduceDiv, Int.reduceNeg, Int.reduceLE, Int.reduceLT, Int.reduceToNat, Int.reduceEq, Int.reduceNe, ↓reduceIte,  hlt]
      refine call_of (hot) ?_
      set_option maxRecDepth 100000 in simp (maxSteps := 10000000) only [go_sem, Nat.reduceAdd, Nat.reduceSub, Nat.reduceMul, Nat.reduceLT, Nat.reduceLeDiff, Nat.reduceEqDiff, Nat.reduceMod, Nat.reduceDiv, Int.reduceNeg, Int.reduceLE, Int.reduceLT, Int.reduceToNat, Int.reduceEq, Int.reduceNe, ↓reduceIte,  Bool.not_true, hk0, decide_false, hs2, hs3, rebRow_len, hb]
      refine ih (s + 1) _ (by omega) (by omega) ?_
      set_option maxRecDepth 100000 in simp (maxSteps := 10000000) only [go_sem, Nat.reduceAdd, Nat.reduceSub, Nat.reduceMul, Nat.reduceLT, Nat.reduceLeDiff, Nat.reduceEqDiff, Nat.reduceMod, Nat.reduceDiv, Int.reduceNeg, Int.reduceLE, Int.reduceLT, Int.reduceToNat, Int.reduceEq, Int.reduceNe, ↓reduceIte,  wrap_succ (show s < 9223372036854775807 by omega), rebRow_succ hs2 hx]
  · have hE : AV.agg (encDisk (d.rebuilt (4 : Int).toNat)) = .agg [.int .i64 d.kind, .int .i64 d.size, .sl [[.int .i64 (d.at 0).state, .sl ((d.at 0).secs.map encStr)], [.int .i64 (d.at 1).state, .sl ((d.at 1).secs.map encStr)], [.int .i64 (d.at 2).state, .sl ((d.at 2).secs.map encStr)], [.int .i64 (d.at 3).state, .sl ((d.at 3).secs.map encStr)], [.int .i64 0, .sl (rebRow d 4 d.sz)]]] := by
      rw [rebRow_all]
      conv => lhs; unfold Disk.rebuilt
      conv => lhs; arg 1; arg 1; arg 3; arg 1; rw [show d.units = [d.at 0, d.at 1, d.at 2, d.at 3, d.at 4] from congrArg Disk.units hdd]
      rfl
    rw [hE]
    replace hsl : (d.at 4).secs.length = d.sz := hsl
    replace hoth : ∀ s, s < d.sz → (d.others 4 s).isSome = true := hoth
    have hrz := rebRow_zero hsl
    refine good_run [(3000014, [], [103000000000000001000019, 103000000000000001001019, 103000000000000001002019, 103000000000000001003019, 103000000000000001004019, 101000000000000000000019]), (6, [5, 8, 9, 10, 23, 24, 25, 26, 27, 28, 29, 30, 31, 32, 33, 34, 35, 36, 37, 38, 39, 40, 41, 42, 43, 44, 45, 46, 47, 48, 49], [])] mixed Try.func26 rfl Try.ntmps26 (rs := [.cell 4 24, .tmp 5]) rfl (by decide +kernel) (by kernel_rfl) rfl ?_
    rw [startE_eq 56 _ _ _ rfl rfl]
    set_option maxRecDepth 100000 in simp (maxSteps := 10000000) only [go_sem, Nat.reduceAdd, Nat.reduceSub, Nat.reduceMul, Nat.reduceLT, Nat.reduceLeDiff, Nat.reduceEqDiff, Nat.reduceMod, Nat.reduceDiv, Int.reduceNeg, Int.reduceLE, Int.reduceLT, Int.reduceToNat, Int.reduceEq, Int.reduceNe, ↓reduceIte]
    refine call_of (hue) ?_
    set_option maxRecDepth 100000 in simp (maxSteps := 10000000) only [go_sem, Nat.reduceAdd, Nat.reduceSub, Nat.reduceMul, Nat.reduceLT, Nat.reduceLeDiff, Nat.reduceEqDiff, Nat.reduceMod, Nat.reduceDiv, Int.reduceNeg, Int.reduceLE, Int.reduceLT, Int.reduceToNat, Int.reduceEq, Int.reduceNe, ↓reduceIte]
    refine callM_of [] [19, 30, 31, 32, 33, 34] (how) ⟨rfl, rfl, rfl, by simp, by simp, by simp, by simp, rfl, rfl, rfl, onodup_of (l := [6, 12, 13, 14, 15, 16]) rfl (by decide)⟩ ?_
    set_option maxRecDepth 100000 in simp (maxSteps := 10000000) only [go_sem, Nat.reduceAdd, Nat.reduceSub, Nat.reduceMul, Nat.reduceLT, Nat.reduceLeDiff, Nat.reduceEqDiff, Nat.reduceMod, Nat.reduceDiv, Int.reduceNeg, Int.reduceLE, Int.reduceLT, Int.reduceToNat, Int.reduceEq, Int.reduceNe, ↓reduceIte]
    refine loop_by ([5, 8, 9, 10, 23, 24, 25, 26, 27, 28, 29, 30, 31, 32, 33, 34, 35, 36, 37, 38, 39, 40, 41, 42, 43, 44, 45, 46, 47, 48, 49], []) (fun s : Nat => [(.s 22, .int .i64 (s : Int)), (.o 34, .obj 1 9 1 false true (rebRow d 4 s))]) (fun s => d.sz - s) (fun s => s ≤ d.sz) 0 rfl (Nat.zero_le _) ?_ ?_
    · set_option maxRecDepth 100000 in simp (maxSteps := 10000000) only [go_sem, Nat.reduceAdd, Nat.reduceSub, Nat.reduceMul, Nat.reduceLT, Nat.reduceLeDiff, Nat.reduceEqDiff, Nat.reduceMod, Nat.reduceDiv, Int.reduceNeg, Int.reduceLE, Int.reduceLT, Int.reduceToNat, Int.reduceEq, Int.reduceNe, ↓reduceIte,  hrz]
    rintro c' st' hst' s hs ih
    set_option maxRecDepth 100000 in simp (maxSteps := 10000000) only [go_sem, Nat.reduceAdd, Nat.reduceSub, Nat.reduceMul, Nat.reduceLT, Nat.reduceLeDiff, Nat.reduceEqDiff, Nat.reduceMod, Nat.reduceDiv, Int.reduceNeg, Int.reduceLE, Int.reduceLT, Int.reduceToNat, Int.reduceEq, Int.reduceNe, ↓reduceIte]
    refine ifI (fun hlt => ?_) fun hlt => ?_
    case refine_2 =>
      have hss : s = d.sz := by omega
      subst hst' hss
      set_option maxRecDepth 100000 in simp (maxSteps := 10000000) only [go_sem, Nat.reduceAdd, Nat.reduceSub, Nat.reduceMul, Nat.reduceLT, Nat.reduceLeDiff, Nat.reduceEqDiff, Nat.reduceMod, Nat.reduceDiv, Int.reduceNeg, Int.reduceLE, Int.reduceLT, Int.reduceToNat, Int.reduceEq, Int.reduceNe, ↓reduceIte,  hlt]
    have hs2 : s < d.sz := by omega
    have hs3 : (s : Int) < (d.sz : Int) := by omega
    have hsome := hoth s hs2
    have hot : Ans Try.prog 52 [.agg (encDisk d), .int .i64 4, .int .i64 (s : Int)] (othT d 4 s) := others_good d hO 4 s hs2
    unfold othT at hot
    cases hx : d.others 4 s with
    | none => rw [hx] at hsome; cases hsome
    | some x =>
      rw [hx] at hot
      obtain ⟨b, hb⟩ := rebRow_at (u := 4) hs2
      set_option maxRecDepth 100000 in simp (maxSteps := 10000000) only [go_sem, Nat.reduceAdd, Nat.reduceSub, Nat.reduceMul, Nat.reduceLT, Nat.reduceLeDiff, Nat.reduceEqDiff, Nat.reduceMod, Nat.reduceDiv, Int.reduceNeg, Int.reduceLE, Int.reduceLT, Int.reduceToNat, Int.reduceEq, Int.reduceNe, ↓reduceIte,  hlt]
      refine call_of (hot) ?_
      set_option maxRecDepth 100000 in simp (maxSteps := 10000000) only [go_sem, Nat.reduceAdd, Nat.reduceSub, Nat.reduceMul, Nat.reduceLT, Nat.reduceLeDiff, Nat.reduceEqDiff, Nat.reduceMod, Nat.reduceDiv, Int.reduceNeg, Int.reduceLE, Int.reduceLT, Int.reduceToNat, Int.reduceEq, Int.reduceNe, ↓reduceIte,  Bool.not_true, hk0, decide_false, hs2, hs3, rebRow_len, hb]
      refine ih (s + 1) _ (by omega) (by omega) ?_
      set_option maxRecDepth 100000 in simp (maxSteps := 10000000) only [go_sem, Nat.reduceAdd, Nat.reduceSub, Nat.reduceMul, Nat.reduceLT, Nat.reduceLeDiff, Nat.reduceEqDiff, Nat.reduceMod, Nat.reduceDiv, Int.reduceNeg, Int.reduceLE, Int.reduceLT, Int.reduceToNat, Int.reduceEq, Int.reduceNe, ↓reduceIte,  wrap_succ (show s < 9223372036854775807 by omega), rebRow_succ hs2 hx]
theorem Rebuilt_good (d : Disk) (hf : FitD d) (u : Int) (hu : uE d u 2 true = 0) (hk : ¬ d.kind = 0) (hoth : ∀ s, s < d.sz → (d.others u.toNat s).isSome = true) : Ans Try.prog 26 [.agg (encDisk d), .int .i64 u] (.tup [.agg (encDisk (d.rebuilt u.toNat)), .int .i64 0]) := by
  have h5 := (okd_of (uE_zero hu).1).n5
  have : d.n = 1 ∨ d.n = 2 ∨ d.n = 3 ∨ d.n = 4 ∨ d.n = 5 := by omega
  rcases this with q | q | q | q | q
  · exact Rebuilt_1 d hf q u hu hk hoth
  · exact Rebuilt_2 d hf q u hu hk hoth
  · exact Rebuilt_3 d hf q u hu hk hoth
  · exact Rebuilt_4 d hf q u hu hk hoth
  · exact Rebuilt_5 d hf q u hu hk hoth

end Go.Proofs.Ytdfdagfgkijpcaa.C06
