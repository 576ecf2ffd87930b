/- Chapter 6: writes to units are made in place: for one to five units. Printed by gen_a10.py. -/
import Derived.Test.YtdfdagfgkijpcaaA9
namespace Go.Proofs.Ytdfdagfgkijpcaa.C06
open Go Go.Proofs Go.Proofs.Ytdfdagfgkijpcaa.Ab
set_option linter.unusedSimpArgs false
set_option linter.unusedVariables false
attribute [local congr] ite_ctx

theorem at_map {α : Type} [Inhabited α] {f : α → List AV} {l : List α} {i : Nat} (h : i < l.length) : (l.map f)[i]? = some (f (nth l i)) := by
  rw [List.getElem?_map, List.getElem?_eq_getElem h, nth_eq h]; rfl
/-- Writes that can be made. -/
def okW1 (d : Disk) (x : UW) : Prop := 0 ≤ x.unit ∧ x.unit < (d.n : Int) ∧ 0 ≤ x.sector ∧ x.sector.toNat < (d.at x.unit.toNat).secs.length
theorem made_step {d : Disk} {l : List UW} {i : Nat} (h : i < l.length) : made d (l.take (i + 1)) = put1 (made d (l.take i)) (nth l i) := by
  rw [← take_snoc h, made_append]; rfl
def rowS (d : Disk) (l : List UW) (i j : Nat) : List (List AV) := ((made d (l.take i)).at j).secs.map encStr
theorem rowS_len {d : Disk} {l : List UW} {i j : Nat} (hj : j < d.n) : (rowS d l i j).length = (d.at j).secs.length := by
  rw [rowS, List.length_map, (made_state _ d j hj).2]
theorem rowS_zero (d : Disk) (l : List UW) (j : Nat) : rowS d l 0 j = (d.at j).secs.map encStr := rfl
theorem rowS_all (d : Disk) (l : List UW) (j : Nat) : rowS d l l.length j = ((made d l).at j).secs.map encStr := by rw [rowS, List.take_length]
theorem rowS_ne {d : Disk} {l : List UW} {i j : Nat} (h : i < l.length) (hj : j < d.n) (hu : ¬ (nth l i).unit = (j : Int)) (h0 : 0 ≤ (nth l i).unit) : rowS d l (i + 1) j = rowS d l i j := by
  rw [rowS, made_step h, at_put1 _ _ _ (by rw [(made_same _ d).2.2]; exact hj), if_neg (by omega)]; rfl
theorem rowS_eq {d : Disk} {l : List UW} {i j : Nat} (h : i < l.length) (hj : j < d.n) (hu : (nth l i).unit = (j : Int)) : rowS d l (i + 1) j = (rowS d l i j).set (nth l i).sector.toNat [.str (nth l i).bytes] := by
  rw [rowS, made_step h, at_put1 _ _ _ (by rw [(made_same _ d).2.2]; exact hj), if_pos (by omega), List.map_set]; rfl
theorem rowS_at {d : Disk} {l : List UW} {i j k : Nat} (hj : j < d.n) (hk : k < (d.at j).secs.length) : ∃ b, (rowS d l i j)[k]? = some [.str b] := by
  have hk2 : k < ((made d (l.take i)).at j).secs.length := by rw [(made_state _ d j hj).2]; exact hk
  exact ⟨_, at_map (f := encStr) hk2⟩

set_option maxHeartbeats 8000000 in
theorem made_1 (k s : Int) (d : Disk) (hn : d.n = 1) (fz : Bool) (l : List UW) (hl : l.length ≤ 1000000) (hok : ∀ x ∈ l, okW1 d x) (st0 : Int) : AnsM Try.prog 45 25 [.obj 1 66 2 false false [[.int .i64 st0, .ref 26 1]], .obj 1 9 1 false true ((d.at 0).secs.map encStr), .obj 1 64 3 fz true (l.map encUW)] [.agg [.int .i64 k, .int .i64 s, .ref 25 1], .ref 27 1] (.tup [])
    [(25, .obj 1 66 2 false false [[.int .i64 st0, .ref 26 1]]), (26, .obj 1 9 1 false true (((made d l).at 0).secs.map encStr)), (27, .obj 1 64 3 fz true (l.map encUW))] := by
  refine goodM_run [(2, [5, 9, 10, 11, 12, 13, 14, 15, 16, 17, 18, 19, 20, 21, 22, 23, 24], [5])] mixed Try.func45 rfl Try.ntmps45 (rs := []) rfl (show wfCode 28 _ = true by decide +kernel) (by kernel_rfl) ?_
  rw [startM_eq 25 _ _ _ _ rfl rfl]
  set_option maxRecDepth 100000 in simp (maxSteps := 10000000) only [go_sem, Nat.reduceAdd, Nat.reduceSub, Nat.reduceMul, Nat.reduceLT, Nat.reduceLeDiff, Nat.reduceEqDiff, Nat.reduceMod, Nat.reduceDiv, Int.reduceNeg, Int.reduceLE, Int.reduceLT, Int.reduceToNat, Int.reduceEq, Int.reduceNe, ↓reduceIte]
  refine loop_by ([5, 9, 10, 11, 12, 13, 14, 15, 16, 17, 18, 19, 20, 21, 22, 23, 24], [5]) (fun i : Nat => [(.s 8, .int .i64 (i : Int)), (.o 5, deadV i), (.o 26, .obj 1 9 1 false true (rowS d l i 0))]) (fun i => l.length - i) (fun i => i ≤ l.length) 0 rfl (Nat.zero_le _) ?_ ?_
  · set_option maxRecDepth 100000 in simp (maxSteps := 10000000) only [go_sem, Nat.reduceAdd, Nat.reduceSub, Nat.reduceMul, Nat.reduceLT, Nat.reduceLeDiff, Nat.reduceEqDiff, Nat.reduceMod, Nat.reduceDiv, Int.reduceNeg, Int.reduceLE, Int.reduceLT, Int.reduceToNat, Int.reduceEq, Int.reduceNe, ↓reduceIte,  rowS_zero]
  rintro c' st' hst i hi ih
  set_option maxRecDepth 100000 in simp (maxSteps := 10000000) only [go_sem, Nat.reduceAdd, Nat.reduceSub, Nat.reduceMul, Nat.reduceLT, Nat.reduceLeDiff, Nat.reduceEqDiff, Nat.reduceMod, Nat.reduceDiv, Int.reduceNeg, Int.reduceLE, Int.reduceLT, Int.reduceToNat, Int.reduceEq, Int.reduceNe, ↓reduceIte]
  refine ifI (fun hlt => ?_) fun hlt => ?_
  case refine_2 =>
    have hil : i = l.length := by omega
    subst hst hil
    set_option maxRecDepth 100000 in simp (maxSteps := 10000000) only [go_sem, Nat.reduceAdd, Nat.reduceSub, Nat.reduceMul, Nat.reduceLT, Nat.reduceLeDiff, Nat.reduceEqDiff, Nat.reduceMod, Nat.reduceDiv, Int.reduceNeg, Int.reduceLE, Int.reduceLT, Int.reduceToNat, Int.reduceEq, Int.reduceNe, ↓reduceIte,  hlt, rowS_all]
    simp
  obtain ⟨a1, a2, a3, a4⟩ := hok _ (nth_mem hlt)
  have hu : (nth l i).unit = 0 := by omega
  have hs : (nth l i).sector.toNat < (d.at 0).secs.length := by rw [hu] at a4; exact a4
  have hs2 : (nth l i).sector < ((d.at 0).secs.length : Int) := by omega
  obtain ⟨b, hb⟩ := rowS_at (d := d) (l := l) (i := i) (j := 0) (by omega) hs
  set_option maxRecDepth 100000 in simp (maxSteps := 10000000) only [go_sem, Nat.reduceAdd, Nat.reduceSub, Nat.reduceMul, Nat.reduceLT, Nat.reduceLeDiff, Nat.reduceEqDiff, Nat.reduceMod, Nat.reduceDiv, Int.reduceNeg, Int.reduceLE, Int.reduceLT, Int.reduceToNat, Int.reduceEq, Int.reduceNe, ↓reduceIte,  hlt, hu, a3, hs2, rowS_len (d := d) (l := l) (i := i) (j := 0) (by omega), hb, at_map (f := encUW) hlt, Option.map_some, List.drop_zero]
  refine ⟨by decide +kernel, ?_⟩
  refine ih (i + 1) _ (by omega) (by omega) ?_
  set_option maxRecDepth 100000 in simp (maxSteps := 10000000) only [go_sem, Nat.reduceAdd, Nat.reduceSub, Nat.reduceMul, Nat.reduceLT, Nat.reduceLeDiff, Nat.reduceEqDiff, Nat.reduceMod, Nat.reduceDiv, Int.reduceNeg, Int.reduceLE, Int.reduceLT, Int.reduceToNat, Int.reduceEq, Int.reduceNe, ↓reduceIte,  wrap_succ (show i < 9223372036854775807 by omega), rowS_eq (d := d) hlt (show 0 < d.n by omega) hu]
set_option maxHeartbeats 8000000 in
theorem made_2 (k s : Int) (d : Disk) (hn : d.n = 2) (fz : Bool) (l : List UW) (hl : l.length ≤ 1000000) (hok : ∀ x ∈ l, okW1 d x) (st0 st1 : Int) : AnsM Try.prog 45 25 [.obj 1 66 2 false false [[.int .i64 st0, .ref 26 1], [.int .i64 st1, .ref 27 1]], .obj 1 9 1 false true ((d.at 0).secs.map encStr), .obj 1 9 1 false true ((d.at 1).secs.map encStr), .obj 1 64 3 fz true (l.map encUW)] [.agg [.int .i64 k, .int .i64 s, .ref 25 1], .ref 28 1] (.tup [])
    [(25, .obj 1 66 2 false false [[.int .i64 st0, .ref 26 1], [.int .i64 st1, .ref 27 1]]), (26, .obj 1 9 1 false true (((made d l).at 0).secs.map encStr)), (27, .obj 1 9 1 false true (((made d l).at 1).secs.map encStr)), (28, .obj 1 64 3 fz true (l.map encUW))] := by
  refine goodM_run [(2, [5, 9, 10, 11, 12, 13, 14, 15, 16, 17, 18, 19, 20, 21, 22, 23, 24], [5])] mixed Try.func45 rfl Try.ntmps45 (rs := []) rfl (show wfCode 29 _ = true by decide +kernel) (by kernel_rfl) ?_
  rw [startM_eq 25 _ _ _ _ rfl rfl]
  set_option maxRecDepth 100000 in simp (maxSteps := 10000000) only [go_sem, Nat.reduceAdd, Nat.reduceSub, Nat.reduceMul, Nat.reduceLT, Nat.reduceLeDiff, Nat.reduceEqDiff, Nat.reduceMod, Nat.reduceDiv, Int.reduceNeg, Int.reduceLE, Int.reduceLT, Int.reduceToNat, Int.reduceEq, Int.reduceNe, ↓reduceIte]
  refine loop_by ([5, 9, 10, 11, 12, 13, 14, 15, 16, 17, 18, 19, 20, 21, 22, 23, 24], [5]) (fun i : Nat => [(.s 8, .int .i64 (i : Int)), (.o 5, deadV i), (.o 26, .obj 1 9 1 false true (rowS d l i 0)), (.o 27, .obj 1 9 1 false true (rowS d l i 1))]) (fun i => l.length - i) (fun i => i ≤ l.length) 0 rfl (Nat.zero_le _) ?_ ?_
  · set_option maxRecDepth 100000 in simp (maxSteps := 10000000) only [go_sem, Nat.reduceAdd, Nat.reduceSub, Nat.reduceMul, Nat.reduceLT, Nat.reduceLeDiff, Nat.reduceEqDiff, Nat.reduceMod, Nat.reduceDiv, Int.reduceNeg, Int.reduceLE, Int.reduceLT, Int.reduceToNat, Int.reduceEq, Int.reduceNe, ↓reduceIte,  rowS_zero]
  rintro c' st' hst i hi ih
  set_option maxRecDepth 100000 in simp (maxSteps := 10000000) only [go_sem, Nat.reduceAdd, Nat.reduceSub, Nat.reduceMul, Nat.reduceLT, Nat.reduceLeDiff, Nat.reduceEqDiff, Nat.reduceMod, Nat.reduceDiv, Int.reduceNeg, Int.reduceLE, Int.reduceLT, Int.reduceToNat, Int.reduceEq, Int.reduceNe, ↓reduceIte]
  refine ifI (fun hlt => ?_) fun hlt => ?_
  case refine_2 =>
    have hil : i = l.length := by omega
    subst hst hil
    set_option maxRecDepth 100000 in simp (maxSteps := 10000000) only [go_sem, Nat.reduceAdd, Nat.reduceSub, Nat.reduceMul, Nat.reduceLT, Nat.reduceLeDiff, Nat.reduceEqDiff, Nat.reduceMod, Nat.reduceDiv, Int.reduceNeg, Int.reduceLE, Int.reduceLT, Int.reduceToNat, Int.reduceEq, Int.reduceNe, ↓reduceIte,  hlt, rowS_all]
    simp
  obtain ⟨a1, a2, a3, a4⟩ := hok _ (nth_mem hlt)
  have hu : (nth l i).unit = 0 ∨ (nth l i).unit = 1 := by omega
  rcases hu with hu | hu
  · have hs : (nth l i).sector.toNat < (d.at 0).secs.length := by rw [hu] at a4; exact a4
    have hs2 : (nth l i).sector < ((d.at 0).secs.length : Int) := by omega
    obtain ⟨b, hb⟩ := rowS_at (d := d) (l := l) (i := i) (j := 0) (by omega) hs
    set_option maxRecDepth 100000 in simp (maxSteps := 10000000) only [go_sem, Nat.reduceAdd, Nat.reduceSub, Nat.reduceMul, Nat.reduceLT, Nat.reduceLeDiff, Nat.reduceEqDiff, Nat.reduceMod, Nat.reduceDiv, Int.reduceNeg, Int.reduceLE, Int.reduceLT, Int.reduceToNat, Int.reduceEq, Int.reduceNe, ↓reduceIte,  hlt, hu, a3, hs2, rowS_len (d := d) (l := l) (i := i) (j := 0) (by omega), hb, at_map (f := encUW) hlt, Option.map_some, List.drop_zero]
    refine ⟨by decide +kernel, ?_⟩
    refine ih (i + 1) _ (by omega) (by omega) ?_
    set_option maxRecDepth 100000 in simp (maxSteps := 10000000) only [go_sem, Nat.reduceAdd, Nat.reduceSub, Nat.reduceMul, Nat.reduceLT, Nat.reduceLeDiff, Nat.reduceEqDiff, Nat.reduceMod, Nat.reduceDiv, Int.reduceNeg, Int.reduceLE, Int.reduceLT, Int.reduceToNat, Int.reduceEq, Int.reduceNe, ↓reduceIte,  wrap_succ (show i < 9223372036854775807 by omega), rowS_eq (d := d) hlt (show 0 < d.n by omega) hu, rowS_ne (d := d) hlt (show 1 < d.n by omega) (by rw [hu]; decide) a1]
  · have hs : (nth l i).sector.toNat < (d.at 1).secs.length := by rw [hu] at a4; exact a4
    have hs2 : (nth l i).sector < ((d.at 1).secs.length : Int) := by omega
    obtain ⟨b, hb⟩ := rowS_at (d := d) (l := l) (i := i) (j := 1) (by omega) hs
    set_option maxRecDepth 100000 in simp (maxSteps := 10000000) only [go_sem, Nat.reduceAdd, Nat.reduceSub, Nat.reduceMul, Nat.reduceLT, Nat.reduceLeDiff, Nat.reduceEqDiff, Nat.reduceMod, Nat.reduceDiv, Int.reduceNeg, Int.reduceLE, Int.reduceLT, Int.reduceToNat, Int.reduceEq, Int.reduceNe, ↓reduceIte,  hlt, hu, a3, hs2, rowS_len (d := d) (l := l) (i := i) (j := 1) (by omega), hb, at_map (f := encUW) hlt, Option.map_some, List.drop_zero]
    refine ⟨by decide +kernel, ?_⟩
    refine ih (i + 1) _ (by omega) (by omega) ?_
    set_option maxRecDepth 100000 in simp (maxSteps := 10000000) only [go_sem, Nat.reduceAdd, Nat.reduceSub, Nat.reduceMul, Nat.reduceLT, Nat.reduceLeDiff, Nat.reduceEqDiff, Nat.reduceMod, Nat.reduceDiv, Int.reduceNeg, Int.reduceLE, Int.reduceLT, Int.reduceToNat, Int.reduceEq, Int.reduceNe, ↓reduceIte,  wrap_succ (show i < 9223372036854775807 by omega), rowS_eq (d := d) hlt (show 1 < d.n by omega) hu, rowS_ne (d := d) hlt (show 0 < d.n by omega) (by rw [hu]; decide) a1]
set_option maxHeartbeats 8000000 in
theorem made_3 (k s : Int) (d : Disk) (hn : d.n = 3) (fz : Bool) (l : List UW) (hl : l.length ≤ 1000000) (hok : ∀ x ∈ l, okW1 d x) (st0 st1 st2 : Int) : AnsM Try.prog 45 25 [.obj 1 66 2 false false [[.int .i64 st0, .ref 26 1], [.int .i64 st1, .ref 27 1], [.int .i64 st2, .ref 28 1]], .obj 1 9 1 false true ((d.at 0).secs.map encStr), .obj 1 9 1 false true ((d.at 1).secs.map encStr), .obj 1 9 1 false true ((d.at 2).secs.map encStr), .obj 1 64 3 fz true (l.map encUW)] [.agg [.int .i64 k, .int .i64 s, .ref 25 1], .ref 29 1] (.tup [])
    [(25, .obj 1 66 2 false false [[.int .i64 st0, .ref 26 1], [.int .i64 st1, .ref 27 1], [.int .i64 st2, .ref 28 1]]), (26, .obj 1 9 1 false true (((made d l).at 0).secs.map encStr)), (27, .obj 1 9 1 false true (((made d l).at 1).secs.map encStr)), (28, .obj 1 9 1 false true (((made d l).at 2).secs.map encStr)), (29, .obj 1 64 3 fz true (l.map encUW))] := by
  refine goodM_run [(2, [5, 9, 10, 11, 12, 13, 14, 15, 16, 17, 18, 19, 20, 21, 22, 23, 24], [5])] mixed Try.func45 rfl Try.ntmps45 (rs := []) rfl (show wfCode 30 _ = true by decide +kernel) (by kernel_rfl) ?_
  rw [startM_eq 25 _ _ _ _ rfl rfl]
  set_option maxRecDepth 100000 in simp (maxSteps := 10000000) only [go_sem, Nat.reduceAdd, Nat.reduceSub, Nat.reduceMul, Nat.reduceLT, Nat.reduceLeDiff, Nat.reduceEqDiff, Nat.reduceMod, Nat.reduceDiv, Int.reduceNeg, Int.reduceLE, Int.reduceLT, Int.reduceToNat, Int.reduceEq, Int.reduceNe, ↓reduceIte]
  refine loop_by ([5, 9, 10, 11, 12, 13, 14, 15, 16, 17, 18, 19, 20, 21, 22, 23, 24], [5]) (fun i : Nat => [(.s 8, .int .i64 (i : Int)), (.o 5, deadV i), (.o 26, .obj 1 9 1 false true (rowS d l i 0)), (.o 27, .obj 1 9 1 false true (rowS d l i 1)), (.o 28, .obj 1 9 1 false true (rowS d l i 2))]) (fun i => l.length - i) (fun i => i ≤ l.length) 0 rfl (Nat.zero_le _) ?_ ?_
  · set_option maxRecDepth 100000 in simp (maxSteps := 10000000) only [go_sem, Nat.reduceAdd, Nat.reduceSub, Nat.reduceMul, Nat.reduceLT, Nat.reduceLeDiff, Nat.reduceEqDiff, Nat.reduceMod, Nat.reduceDiv, Int.reduceNeg, Int.reduceLE, Int.reduceLT, Int.reduceToNat, Int.reduceEq, Int.reduceNe, ↓reduceIte,  rowS_zero]
  rintro c' st' hst i hi ih
  set_option maxRecDepth 100000 in simp (maxSteps := 10000000) only [go_sem, Nat.reduceAdd, Nat.reduceSub, Nat.reduceMul, Nat.reduceLT, Nat.reduceLeDiff, Nat.reduceEqDiff, Nat.reduceMod, Nat.reduceDiv, Int.reduceNeg, Int.reduceLE, Int.reduceLT, Int.reduceToNat, Int.reduceEq, Int.reduceNe, ↓reduceIte]
  refine ifI (fun hlt => ?_) fun hlt => ?_
  case refine_2 =>
    have hil : i = l.length := by omega
    subst hst hil
    set_option maxRecDepth 100000 in simp (maxSteps := 10000000) only [go_sem, Nat.reduceAdd, Nat.reduceSub, Nat.reduceMul, Nat.reduceLT, Nat.reduceLeDiff, Nat.reduceEqDiff, Nat.reduceMod, Nat.reduceDiv, Int.reduceNeg, Int.reduceLE, Int.reduceLT, Int.reduceToNat, Int.reduceEq, Int.reduceNe, ↓reduceIte,  hlt, rowS_all]
    simp
  obtain ⟨a1, a2, a3, a4⟩ := hok _ (nth_mem hlt)
  have hu : (nth l i).unit = 0 ∨ (nth l i).unit = 1 ∨ (nth l i).unit = 2 := by omega
  rcases hu with hu | hu | hu
  · have hs : (nth l i).sector.toNat < (d.at 0).secs.length := by rw [hu] at a4; exact a4
    have hs2 : (nth l i).sector < ((d.at 0).secs.length : Int) := by omega
    obtain ⟨b, hb⟩ := rowS_at (d := d) (l := l) (i := i) (j := 0) (by omega) hs
    set_option maxRecDepth 100000 in simp (maxSteps := 10000000) only [go_sem, Nat.reduceAdd, Nat.reduceSub, Nat.reduceMul, Nat.reduceLT, Nat.reduceLeDiff, Nat.reduceEqDiff, Nat.reduceMod, Nat.reduceDiv, Int.reduceNeg, Int.reduceLE, Int.reduceLT, Int.reduceToNat, Int.reduceEq, Int.reduceNe, ↓reduceIte,  hlt, hu, a3, hs2, rowS_len (d := d) (l := l) (i := i) (j := 0) (by omega), hb, at_map (f := encUW) hlt, Option.map_some, List.drop_zero]
    refine ⟨by decide +kernel, ?_⟩
    refine ih (i + 1) _ (by omega) (by omega) ?_
    set_option maxRecDepth 100000 in simp (maxSteps := 10000000) only [go_sem, Nat.reduceAdd, Nat.reduceSub, Nat.reduceMul, Nat.reduceLT, Nat.reduceLeDiff, Nat.reduceEqDiff, Nat.reduceMod, Nat.reduceDiv, Int.reduceNeg, Int.reduceLE, Int.reduceLT, Int.reduceToNat, Int.reduceEq, Int.reduceNe, ↓reduceIte,  wrap_succ (show i < 9223372036854775807 by omega), rowS_eq (d := d) hlt (show 0 < d.n by omega) hu, rowS_ne (d := d) hlt (show 1 < d.n by omega) (by rw [hu]; decide) a1, rowS_ne (d := d) hlt (show 2 < d.n by omega) (by rw [hu]; decide) a1]
  · have hs : (nth l i).sector.toNat < (d.at 1).secs.length := by rw [hu] at a4; exact a4
    have hs2 : (nth l i).sector < ((d.at 1).secs.length : Int) := by omega
    obtain ⟨b, hb⟩ := rowS_at (d := d) (l := l) (i := i) (j := 1) (by omega) hs
    set_option maxRecDepth 100000 in simp (maxSteps := 10000000) only [go_sem, Nat.reduceAdd, Nat.reduceSub, Nat.reduceMul, Nat.reduceLT, Nat.reduceLeDiff, Nat.reduceEqDiff, Nat.reduceMod, Nat.reduceDiv, Int.reduceNeg, Int.reduceLE, Int.reduceLT, Int.reduceToNat, Int.reduceEq, Int.reduceNe, ↓reduceIte,  hlt, hu, a3, hs2, rowS_len (d := d) (l := l) (i := i) (j := 1) (by omega), hb, at_map (f := encUW) hlt, Option.map_some, List.drop_zero]
    refine ⟨by decide +kernel, ?_⟩
    refine ih (i + 1) _ (by omega) (by omega) ?_
    set_option maxRecDepth 100000 in simp (maxSteps := 10000000) only [go_sem, Nat.reduceAdd, Nat.reduceSub, Nat.reduceMul, Nat.reduceLT, Nat.reduceLeDiff, Nat.reduceEqDiff, Nat.reduceMod, Nat.reduceDiv, Int.reduceNeg, Int.reduceLE, Int.reduceLT, Int.reduceToNat, Int.reduceEq, Int.reduceNe, ↓reduceIte,  wrap_succ (show i < 9223372036854775807 by omega), rowS_eq (d := d) hlt (show 1 < d.n by omega) hu, rowS_ne (d := d) hlt (show 0 < d.n by omega) (by rw [hu]; decide) a1, rowS_ne (d := d) hlt (show 2 < d.n by omega) (by rw [hu]; decide) a1]
  · have hs : (nth l i).sector.toNat < (d.at 2).secs.length := by rw [hu] at a4; exact a4
    have hs2 : (nth l i).sector < ((d.at 2).secs.length : Int) := by omega
    obtain ⟨b, hb⟩ := rowS_at (d := d) (l := l) (i := i) (j := 2) (by omega) hs
    set_option maxRecDepth 100000 in simp (maxSteps := 10000000) only [go_sem, Nat.reduceAdd, Nat.reduceSub, Nat.reduceMul, Nat.reduceLT, Nat.reduceLeDiff, Nat.reduceEqDiff, Nat.reduceMod, Nat.reduceDiv, Int.reduceNeg, Int.reduceLE, Int.reduceLT, Int.reduceToNat, Int.reduceEq, Int.reduceNe, ↓reduceIte,  hlt, hu, a3, hs2, rowS_len (d := d) (l := l) (i := i) (j := 2) (by omega), hb, at_map (f := encUW) hlt, Option.map_some, List.drop_zero]
    refine ⟨by decide +kernel, ?_⟩
    refine ih (i + 1) _ (by omega) (by omega) ?_
    set_option maxRecDepth 100000 in simp (maxSteps := 10000000) only [go_sem, Nat.reduceAdd, Nat.reduceSub, Nat.reduceMul, Nat.reduceLT, Nat.reduceLeDiff, Nat.reduceEqDiff, Nat.reduceMod, Nat.reduceDiv, Int.reduceNeg, Int.reduceLE, Int.reduceLT, Int.reduceToNat, Int.reduceEq, Int.reduceNe, ↓reduceIte,  wrap_succ (show i < 9223372036854775807 by omega), rowS_eq (d := d) hlt (show 2 < d.n by omega) hu, rowS_ne (d := d) hlt (show 0 < d.n by omega) (by rw [hu]; decide) a1, rowS_ne (d := d) hlt (show 1 < d.n by omega) (by rw [hu]; decide) a1]
set_option maxHeartbeats 8000000 in
theorem made_4 (k s : Int) (d : Disk) (hn : d.n = 4) (fz : Bool) (l : List UW) (hl : l.length ≤ 1000000) (hok : ∀ x ∈ l, okW1 d x) (st0 st1 st2 st3 : Int) : AnsM Try.prog 45 25 [.obj 1 66 2 false false [[.int .i64 st0, .ref 26 1], [.int .i64 st1, .ref 27 1], [.int .i64 st2, .ref 28 1], [.int .i64 st3, .ref 29 1]], .obj 1 9 1 false true ((d.at 0).secs.map encStr), .obj 1 9 1 false true ((d.at 1).secs.map encStr), .obj 1 9 1 false true ((d.at 2).secs.map encStr), .obj 1 9 1 false true ((d.at 3).secs.map encStr), .obj 1 64 3 fz true (l.map encUW)] [.agg [.int .i64 k, .int .i64 s, .ref 25 1], .ref 30 1] (.tup [])
    [(25, .obj 1 66 2 false false [[.int .i64 st0, .ref 26 1], [.int .i64 st1, .ref 27 1], [.int .i64 st2, .ref 28 1], [.int .i64 st3, .ref 29 1]]), (26, .obj 1 9 1 false true (((made d l).at 0).secs.map encStr)), (27, .obj 1 9 1 false true (((made d l).at 1).secs.map encStr)), (28, .obj 1 9 1 false true (((made d l).at 2).secs.map encStr)), (29, .obj 1 9 1 false true (((made d l).at 3).secs.map encStr)), (30, .obj 1 64 3 fz true (l.map encUW))] := by
  refine goodM_run [(2, [5, 9, 10, 11, 12, 13, 14, 15, 16, 17, 18, 19, 20, 21, 22, 23, 24], [5])] mixed Try.func45 rfl Try.ntmps45 (rs := []) rfl (show wfCode 31 _ = true by decide +kernel) (by kernel_rfl) ?_
  rw [startM_eq 25 _ _ _ _ rfl rfl]
  set_option maxRecDepth 100000 in simp (maxSteps := 10000000) only [go_sem, Nat.reduceAdd, Nat.reduceSub, Nat.reduceMul, Nat.reduceLT, Nat.reduceLeDiff, Nat.reduceEqDiff, Nat.reduceMod, Nat.reduceDiv, Int.reduceNeg, Int.reduceLE, Int.reduceLT, Int.reduceToNat, Int.reduceEq, Int.reduceNe, ↓reduceIte]
  refine loop_by ([5, 9, 10, 11, 12, 13, 14, 15, 16, 17, 18, 19, 20, 21, 22, 23, 24], [5]) (fun i : Nat => [(.s 8, .int .i64 (i : Int)), (.o 5, deadV i), (.o 26, .obj 1 9 1 false true (rowS d l i 0)), (.o 27, .obj 1 9 1 false true (rowS d l i 1)), (.o 28, .obj 1 9 1 false true (rowS d l i 2)), (.o 29, .obj 1 9 1 false true (rowS d l i 3))]) (fun i => l.length - i) (fun i => i ≤ l.length) 0 rfl (Nat.zero_le _) ?_ ?_
  · set_option maxRecDepth 100000 in simp (maxSteps := 10000000) only [go_sem, Nat.reduceAdd, Nat.reduceSub, Nat.reduceMul, Nat.reduceLT, Nat.reduceLeDiff, Nat.reduceEqDiff, Nat.reduceMod, Nat.reduceDiv, Int.reduceNeg, Int.reduceLE, Int.reduceLT, Int.reduceToNat, Int.reduceEq, Int.reduceNe, ↓reduceIte,  rowS_zero]
  rintro c' st' hst i hi ih
  set_option maxRecDepth 100000 in simp (maxSteps := 10000000) only [go_sem, Nat.reduceAdd, Nat.reduceSub, Nat.reduceMul, Nat.reduceLT, Nat.reduceLeDiff, Nat.reduceEqDiff, Nat.reduceMod, Nat.reduceDiv, Int.reduceNeg, Int.reduceLE, Int.reduceLT, Int.reduceToNat, Int.reduceEq, Int.reduceNe, ↓reduceIte]
  refine ifI (fun hlt => ?_) fun hlt => ?_
  case refine_2 =>
    have hil : i = l.length := by omega
    subst hst hil
    set_option maxRecDepth 100000 in simp (maxSteps := 10000000) only [go_sem, Nat.reduceAdd, Nat.reduceSub, Nat.reduceMul, Nat.reduceLT, Nat.reduceLeDiff, Nat.reduceEqDiff, Nat.reduceMod, Nat.reduceDiv, Int.reduceNeg, Int.reduceLE, Int.reduceLT, Int.reduceToNat, Int.reduceEq, Int.reduceNe, ↓reduceIte,  hlt, rowS_all]
    simp
  obtain ⟨a1, a2, a3, a4⟩ := hok _ (nth_mem hlt)
  have hu : (nth l i).unit = 0 ∨ (nth l i).unit = 1 ∨ (nth l i).unit = 2 ∨ (nth l i).unit = 3 := by omega
  rcases hu with hu | hu | hu | hu
  · have hs : (nth l i).sector.toNat < (d.at 0).secs.length := by rw [hu] at a4; exact a4
    have hs2 : (nth l i).sector < ((d.at 0).secs.length : Int) := by omega
    obtain ⟨b, hb⟩ := rowS_at (d := d) (l := l) (i := i) (j := 0) (by omega) hs
    set_option maxRecDepth 100000 in simp (maxSteps := 10000000) only [go_sem, Nat.reduceAdd, Nat.reduceSub, Nat.reduceMul, Nat.reduceLT, Nat.reduceLeDiff, Nat.reduceEqDiff, Nat.reduceMod, Nat.reduceDiv, Int.reduceNeg, Int.reduceLE, Int.reduceLT, Int.reduceToNat, Int.reduceEq, Int.reduceNe, ↓reduceIte,  hlt, hu, a3, hs2, rowS_len (d := d) (l := l) (i := i) (j := 0) (by omega), hb, at_map (f := encUW) hlt, Option.map_some, List.drop_zero]
    refine ⟨by decide +kernel, ?_⟩
    refine ih (i + 1) _ (by omega) (by omega) ?_
    set_option maxRecDepth 100000 in simp (maxSteps := 10000000) only [go_sem, Nat.reduceAdd, Nat.reduceSub, Nat.reduceMul, Nat.reduceLT, Nat.reduceLeDiff, Nat.reduceEqDiff, Nat.reduceMod, Nat.reduceDiv, Int.reduceNeg, Int.reduceLE, Int.reduceLT, Int.reduceToNat, Int.reduceEq, Int.reduceNe, ↓reduceIte,  wrap_succ (show i < 9223372036854775807 by omega), rowS_eq (d := d) hlt (show 0 < d.n by omega) hu, rowS_ne (d := d) hlt (show 1 < d.n by omega) (by rw [hu]; decide) a1, rowS_ne (d := d) hlt (show 2 < d.n by omega) (by rw [hu]; decide) a1, rowS_ne (d := d) hlt (show 3 < d.n by omega) (by rw [hu]; decide) a1]
  · have hs : (nth l i).sector.toNat < (d.at 1).secs.length := by rw [hu] at a4; exact a4
    have hs2 : (nth l i).sector < ((d.at 1).secs.length : Int) := by omega
    obtain ⟨b, hb⟩ := rowS_at (d := d) (l := l) (i := i) (j := 1) (by omega) hs
    set_option maxRecDepth 100000 in simp (maxSteps := 10000000) only [go_sem, Nat.reduceAdd, Nat.reduceSub, Nat.reduceMul, Nat.reduceLT, Nat.reduceLeDiff, Nat.reduceEqDiff, Nat.reduceMod, Nat.reduceDiv, Int.reduceNeg, Int.reduceLE, Int.reduceLT, Int.reduceToNat, Int.reduceEq, Int.reduceNe, ↓reduceIte,  hlt, hu, a3, hs2, rowS_len (d := d) (l := l) (i := i) (j := 1) (by omega), hb, at_map (f := encUW) hlt, Option.map_some, List.drop_zero]
    refine ⟨by decide +kernel, ?_⟩
    refine ih (i + 1) _ (by omega) (by omega) ?_
    set_option maxRecDepth 100000 in simp (maxSteps := 10000000) only [go_sem, Nat.reduceAdd, Nat.reduceSub, Nat.reduceMul, Nat.reduceLT, Nat.reduceLeDiff, Nat.reduceEqDiff, Nat.reduceMod, Nat.reduceDiv, Int.reduceNeg, Int.reduceLE, Int.reduceLT, Int.reduceToNat, Int.reduceEq, Int.reduceNe, ↓reduceIte,  wrap_succ (show i < 9223372036854775807 by omega), rowS_eq (d := d) hlt (show 1 < d.n by omega) hu, rowS_ne (d := d) hlt (show 0 < d.n by omega) (by rw [hu]; decide) a1, rowS_ne (d := d) hlt (show 2 < d.n by omega) (by rw [hu]; decide) a1, rowS_ne (d := d) hlt (show 3 < d.n by omega) (by rw [hu]; decide) a1]
  · have hs : (nth l i).sector.toNat < (d.at 2).secs.length := by rw [hu] at a4; exact a4
    have hs2 : (nth l i).sector < ((d.at 2).secs.length : Int) := by omega
    obtain ⟨b, hb⟩ := rowS_at (d := d) (l := l) (i := i) (j := 2) (by omega) hs
    set_option maxRecDepth 100000 in simp (maxSteps := 10000000) only [go_sem, Nat.reduceAdd, Nat.reduceSub, Nat.reduceMul, Nat.reduceLT, Nat.reduceLeDiff, Nat.reduceEqDiff, Nat.reduceMod, Nat.reduceDiv, Int.reduceNeg, Int.reduceLE, Int.reduceLT, Int.reduceToNat, Int.reduceEq, Int.reduceNe, ↓reduceIte,  hlt, hu, a3, hs2, rowS_len (d := d) (l := l) (i := i) (j := 2) (by omega), hb, at_map (f := encUW) hlt, Option.map_some, List.drop_zero]
    refine ⟨by decide +kernel, ?_⟩
    refine ih (i + 1) _ (by omega) (by omega) ?_
    set_option maxRecDepth 100000 in simp (maxSteps := 10000000) only [go_sem, Nat.reduceAdd, Nat.reduceSub, Nat.reduceMul, Nat.reduceLT, Nat.reduceLeDiff, Nat.reduceEqDiff, Nat.reduceMod, Nat.reduceDiv, Int.reduceNeg, Int.reduceLE, Int.reduceLT, Int.reduceToNat, Int.reduceEq, Int.reduceNe, ↓reduceIte,  wrap_succ (show i < 9223372036854775807 by omega), rowS_eq (d := d) hlt (show 2 < d.n by omega) hu, rowS_ne (d := d) hlt (show 0 < d.n by omega) (by rw [hu]; decide) a1, rowS_ne (d := d) hlt (show 1 < d.n by omega) (by rw [hu]; decide) a1, rowS_ne (d := d) hlt (show 3 < d.n by omega) (by rw [hu]; decide) a1]
  · have hs : (nth l i).sector.toNat < (d.at 3).secs.length := by rw [hu] at a4; exact a4
    have hs2 : (nth l i).sector < ((d.at 3).secs.length : Int) := by omega
    obtain ⟨b, hb⟩ := rowS_at (d := d) (l := l) (i := i) (j := 3) (by omega) hs
    set_option maxRecDepth 100000 in simp (maxSteps := 10000000) only [go_sem, Nat.reduceAdd, Nat.reduceSub, Nat.reduceMul, Nat.reduceLT, Nat.reduceLeDiff, Nat.reduceEqDiff, Nat.reduceMod, Nat.reduceDiv, Int.reduceNeg, Int.reduceLE, Int.reduceLT, Int.reduceToNat, Int.reduceEq, Int.reduceNe, ↓reduceIte,  hlt, hu, a3, hs2, rowS_len (d := d) (l := l) (i := i) (j := 3) (by omega), hb, at_map (f := encUW) hlt, Option.map_some, List.drop_zero]
    refine ⟨by decide +kernel, ?_⟩
    refine ih (i + 1) _ (by omega) (by omega) ?_
    set_option maxRecDepth 100000 in simp (maxSteps := 10000000) only [go_sem, Nat.reduceAdd, Nat.reduceSub, Nat.reduceMul, Nat.reduceLT, Nat.reduceLeDiff, Nat.reduceEqDiff, Nat.reduceMod, Nat.reduceDiv, Int.reduceNeg, Int.reduceLE, Int.reduceLT, Int.reduceToNat, Int.reduceEq, Int.reduceNe, ↓reduceIte,  wrap_succ (show i < 9223372036854775807 by omega), rowS_eq (d := d) hlt (show 3 < d.n by omega) hu, rowS_ne (d := d) hlt (show 0 < d.n by omega) (by rw [hu]; decide) a1, rowS_ne (d := d) hlt (show 1 < d.n by omega) (by rw [hu]; decide) a1, rowS_ne (d := d) hlt (show 2 < d.n by omega) (by rw [hu]; decide) a1]
set_option maxHeartbeats 8000000 in
theorem made_5 (k s : Int) (d : Disk) (hn : d.n = 5) (fz : Bool) (l : List UW) (hl : l.length ≤ 1000000) (hok : ∀ x ∈ l, okW1 d x) (st0 st1 st2 st3 st4 : Int) : AnsM Try.prog 45 25 [.obj 1 66 2 false false [[.int .i64 st0, .ref 26 1], [.int .i64 st1, .ref 27 1], [.int .i64 st2, .ref 28 1], [.int .i64 st3, .ref 29 1], [.int .i64 st4, .ref 30 1]], .obj 1 9 1 false true ((d.at 0).secs.map encStr), .obj 1 9 1 false true ((d.at 1).secs.map encStr), .obj 1 9 1 false true ((d.at 2).secs.map encStr), .obj 1 9 1 false true ((d.at 3).secs.map encStr), .obj 1 9 1 false true ((d.at 4).secs.map encStr), .obj 1 64 3 fz true (l.map encUW)] [.agg [.int .i64 k, .int .i64 s, .ref 25 1], .ref 31 1] (.tup [])
    [(25, .obj 1 66 2 false false [[.int .i64 st0, .ref 26 1], [.int .i64 st1, .ref 27 1], [.int .i64 st2, .ref 28 1], [.int .i64 st3, .ref 29 1], [.int .i64 st4, .ref 30 1]]), (26, .obj 1 9 1 false true (((made d l).at 0).secs.map encStr)), (27, .obj 1 9 1 false true (((made d l).at 1).secs.map encStr)), (28, .obj 1 9 1 false true (((made d l).at 2).secs.map encStr)), (29, .obj 1 9 1 false true (((made d l).at 3).secs.map encStr)), (30, .obj 1 9 1 false true (((made d l).at 4).secs.map encStr)), (31, .obj 1 64 3 fz true (l.map encUW))] := by
  refine goodM_run [(2, [5, 9, 10, 11, 12, 13, 14, 15, 16, 17, 18, 19, 20, 21, 22, 23, 24], [5])] mixed Try.func45 rfl Try.ntmps45 (rs := []) rfl (show wfCode 32 _ = true by decide +kernel) (by kernel_rfl) ?_
  rw [startM_eq 25 _ _ _ _ rfl rfl]
  set_option maxRecDepth 100000 in simp (maxSteps := 10000000) only [go_sem, Nat.reduceAdd, Nat.reduceSub, Nat.reduceMul, Nat.reduceLT, Nat.reduceLeDiff, Nat.reduceEqDiff, Nat.reduceMod, Nat.reduceDiv, Int.reduceNeg, Int.reduceLE, Int.reduceLT, Int.reduceToNat, Int.reduceEq, Int.reduceNe, ↓reduceIte]
  refine loop_by ([5, 9, 10, 11, 12, 13, 14, 15, 16, 17, 18, 19, 20, 21, 22, 23, 24], [5]) (fun i : Nat => [(.s 8, .int .i64 (i : Int)), (.o 5, deadV i), (.o 26, .obj 1 9 1 false true (rowS d l i 0)), (.o 27, .obj 1 9 1 false true (rowS d l i 1)), (.o 28, .obj 1 9 1 false true (rowS d l i 2)), (.o 29, .obj 1 9 1 false true (rowS d l i 3)), (.o 30, .obj 1 9 1 false true (rowS d l i 4))]) (fun i => l.length - i) (fun i => i ≤ l.length) 0 rfl (Nat.zero_le _) ?_ ?_
  · set_option maxRecDepth 100000 in simp (maxSteps := 10000000) only [go_sem, Nat.reduceAdd, Nat.reduceSub, Nat.reduceMul, Nat.reduceLT, Nat.reduceLeDiff, Nat.reduceEqDiff, Nat.reduceMod, Nat.reduceDiv, Int.reduceNeg, Int.reduceLE, Int.reduceLT, Int.reduceToNat, Int.reduceEq, Int.reduceNe, ↓reduceIte,  rowS_zero]
  rintro c' st' hst i hi ih
  set_option maxRecDepth 100000 in simp (maxSteps := 10000000) only [go_sem, Nat.reduceAdd, Nat.reduceSub, Nat.reduceMul, Nat.reduceLT, Nat.reduceLeDiff, Nat.reduceEqDiff, Nat.reduceMod, Nat.reduceDiv, Int.reduceNeg, Int.reduceLE, Int.reduceLT, Int.reduceToNat, Int.reduceEq, Int.reduceNe, ↓reduceIte]
  refine ifI (fun hlt => ?_) fun hlt => ?_
  case refine_2 =>
    have hil : i = l.length := by omega
    subst hst hil
    set_option maxRecDepth 100000 in simp (maxSteps := 10000000) only [go_sem, Nat.reduceAdd, Nat.reduceSub, Nat.reduceMul, Nat.reduceLT, Nat.reduceLeDiff, Nat.reduceEqDiff, Nat.reduceMod, Nat.reduceDiv, Int.reduceNeg, Int.reduceLE, Int.reduceLT, Int.reduceToNat, Int.reduceEq, Int.reduceNe, ↓reduceIte,  hlt, rowS_all]
    simp
  obtain ⟨a1, a2, a3, a4⟩ := hok _ (nth_mem hlt)
  have hu : (nth l i).unit = 0 ∨ (nth l i).unit = 1 ∨ (nth l i).unit = 2 ∨ (nth l i).unit = 3 ∨ (nth l i).unit = 4 := by omega
  rcases hu with hu | hu | hu | hu | hu
  · have hs : (nth l i).sector.toNat < (d.at 0).secs.length := by rw [hu] at a4; exact a4
    have hs2 : (nth l i).sector < ((d.at 0).secs.length : Int) := by omega
    obtain ⟨b, hb⟩ := rowS_at (d := d) (l := l) (i := i) (j := 0) (by omega) hs
    set_option maxRecDepth 100000 in simp (maxSteps := 10000000) only [go_sem, Nat.reduceAdd, Nat.reduceSub, Nat.reduceMul, Nat.reduceLT, Nat.reduceLeDiff, Nat.reduceEqDiff, Nat.reduceMod, Nat.reduceDiv, Int.reduceNeg, Int.reduceLE, Int.reduceLT, Int.reduceToNat, Int.reduceEq, Int.reduceNe, ↓reduceIte,  hlt, hu, a3, hs2, rowS_len (d := d) (l := l) (i := i) (j := 0) (by omega), hb, at_map (f := encUW) hlt, Option.map_some, List.drop_zero]
    refine ⟨by decide +kernel, ?_⟩
    refine ih (i + 1) _ (by omega) (by omega) ?_
    set_option maxRecDepth 100000 in simp (maxSteps := 10000000) only [go_sem, Nat.reduceAdd, Nat.reduceSub, Nat.reduceMul, Nat.reduceLT, Nat.reduceLeDiff, Nat.reduceEqDiff, Nat.reduceMod, Nat.reduceDiv, Int.reduceNeg, Int.reduceLE, Int.reduceLT, Int.reduceToNat, Int.reduceEq, Int.reduceNe, ↓reduceIte,  wrap_succ (show i < 9223372036854775807 by omega), rowS_eq (d := d) hlt (show 0 < d.n by omega) hu, rowS_ne (d := d) hlt (show 1 < d.n by omega) (by rw [hu]; decide) a1, rowS_ne (d := d) hlt (show 2 < d.n by omega) (by rw [hu]; decide) a1, rowS_ne (d := d) hlt (show 3 < d.n by omega) (by rw [hu]; decide) a1, rowS_ne (d := d) hlt (show 4 < d.n by omega) (by rw [hu]; decide) a1]
  · have hs : (nth l i).sector.toNat < (d.at 1).secs.length := by rw [hu] at a4; exact a4
    have hs2 : (nth l i).sector < ((d.at 1).secs.length : Int) := by omega
    obtain ⟨b, hb⟩ := rowS_at (d := d) (l := l) (i := i) (j := 1) (by omega) hs
    set_option maxRecDepth 100000 in simp (maxSteps := 10000000) only [go_sem, Nat.reduceAdd, Nat.reduceSub, Nat.reduceMul, Nat.reduceLT, Nat.reduceLeDiff, Nat.reduceEqDiff, Nat.reduceMod, Nat.reduceDiv, Int.reduceNeg, Int.reduceLE, Int.reduceLT, Int.reduceToNat, Int.reduceEq, Int.reduceNe, ↓reduceIte,  hlt, hu, a3, hs2, rowS_len (d := d) (l := l) (i := i) (j := 1) (by omega), hb, at_map (f := encUW) hlt, Option.map_some, List.drop_zero]
    refine ⟨by decide +kernel, ?_⟩
    refine ih (i + 1) _ (by omega) (by omega) ?_
    set_option maxRecDepth 100000 in simp (maxSteps := 10000000) only [go_sem, Nat.reduceAdd, Nat.reduceSub, Nat.reduceMul, Nat.reduceLT, Nat.reduceLeDiff, Nat.reduceEqDiff, Nat.reduceMod, Nat.reduceDiv, Int.reduceNeg, Int.reduceLE, Int.reduceLT, Int.reduceToNat, Int.reduceEq, Int.reduceNe, ↓reduceIte,  wrap_succ (show i < 9223372036854775807 by omega), rowS_eq (d := d) hlt (show 1 < d.n by omega) hu, rowS_ne (d := d) hlt (show 0 < d.n by omega) (by rw [hu]; decide) a1, rowS_ne (d := d) hlt (show 2 < d.n by omega) (by rw [hu]; decide) a1, rowS_ne (d := d) hlt (show 3 < d.n by omega) (by rw [hu]; decide) a1, rowS_ne (d := d) hlt (show 4 < d.n by omega) (by rw [hu]; decide) a1]
  · have hs : (nth l i).sector.toNat < (d.at 2).secs.length := by rw [hu] at a4; exact a4
    have hs2 : (nth l i).sector < ((d.at 2).secs.length : Int) := by omega
    obtain ⟨b, hb⟩ := rowS_at (d := d) (l := l) (i := i) (j := 2) (by omega) hs
    set_option maxRecDepth 100000 in simp (maxSteps := 10000000) only [go_sem, Nat.reduceAdd, Nat.reduceSub, Nat.reduceMul, Nat.reduceLT, Nat.reduceLeDiff, Nat.reduceEqDiff, Nat.reduceMod, Nat.reduceDiv, Int.reduceNeg, Int.reduceLE, Int.reduceLT, Int.reduceToNat, Int.reduceEq, Int.reduceNe, ↓reduceIte,  hlt, hu, a3, hs2, rowS_len (d := d) (l := l) (i := i) (j := 2) (by omega), hb, at_map (f := encUW) hlt, Option.map_some, List.drop_zero]
    refine ⟨by decide +kernel, ?_⟩
    refine ih (i + 1) _ (by omega) (by omega) ?_
    set_option maxRecDepth 100000 in simp (maxSteps := 10000000) only [go_sem, Nat.reduceAdd, Nat.reduceSub, Nat.reduceMul, Nat.reduceLT, Nat.reduceLeDiff, Nat.reduceEqDiff, Nat.reduceMod, Nat.reduceDiv, Int.reduceNeg, Int.reduceLE, Int.reduceLT, Int.reduceToNat, Int.reduceEq, Int.reduceNe, ↓reduceIte,  wrap_succ (show i < 9223372036854775807 by omega), rowS_eq (d := d) hlt (show 2 < d.n by omega) hu, rowS_ne (d := d) hlt (show 0 < d.n by omega) (by rw [hu]; decide) a1, rowS_ne (d := d) hlt (show 1 < d.n by omega) (by rw [hu]; decide) a1, rowS_ne (d := d) hlt (show 3 < d.n by omega) (by rw [hu]; decide) a1, rowS_ne (d := d) hlt (show 4 < d.n by omega) (by rw [hu]; decide) a1]
  · have hs : (nth l i).sector.toNat < (d.at 3).secs.length := by rw [hu] at a4; exact a4
    have hs2 : (nth l i).sector < ((d.at 3).secs.length : Int) := by omega
    obtain ⟨b, hb⟩ := rowS_at (d := d) (l := l) (i := i) (j := 3) (by omega) hs
    set_option maxRecDepth 100000 in simp (maxSteps := 10000000) only [go_sem, Nat.reduceAdd, Nat.reduceSub, Nat.reduceMul, Nat.reduceLT, Nat.reduceLeDiff, Nat.reduceEqDiff, Nat.reduceMod, Nat.reduceDiv, Int.reduceNeg, Int.reduceLE, Int.reduceLT, Int.reduceToNat, Int.reduceEq, Int.reduceNe, ↓reduceIte,  hlt, hu, a3, hs2, rowS_len (d := d) (l := l) (i := i) (j := 3) (by omega), hb, at_map (f := encUW) hlt, Option.map_some, List.drop_zero]
    refine ⟨by decide +kernel, ?_⟩
    refine ih (i + 1) _ (by omega) (by omega) ?_
    set_option maxRecDepth 100000 in simp (maxSteps := 10000000) only [go_sem, Nat.reduceAdd, Nat.reduceSub, Nat.reduceMul, Nat.reduceLT, Nat.reduceLeDiff, Nat.reduceEqDiff, Nat.reduceMod, Nat.reduceDiv, Int.reduceNeg, Int.reduceLE, Int.reduceLT, Int.reduceToNat, Int.reduceEq, Int.reduceNe, ↓reduceIte,  wrap_succ (show i < 9223372036854775807 by omega), rowS_eq (d := d) hlt (show 3 < d.n by omega) hu, rowS_ne (d := d) hlt (show 0 < d.n by omega) (by rw [hu]; decide) a1, rowS_ne (d := d) hlt (show 1 < d.n by omega) (by rw [hu]; decide) a1, rowS_ne (d := d) hlt (show 2 < d.n by omega) (by rw [hu]; decide) a1, rowS_ne (d := d) hlt (show 4 < d.n by omega) (by rw [hu]; decide) a1]
  · have hs : (nth l i).sector.toNat < (d.at 4).secs.length := by rw [hu] at a4; exact a4
    have hs2 : (nth l i).sector < ((d.at 4).secs.length : Int) := by omega
    obtain ⟨b, hb⟩ := rowS_at (d := d) (l := l) (i := i) (j := 4) (by omega) hs
    set_option maxRecDepth 100000 in simp (maxSteps := 10000000) only [go_sem, Nat.reduceAdd, Nat.reduceSub, Nat.reduceMul, Nat.reduceLT, Nat.reduceLeDiff, Nat.reduceEqDiff, Nat.reduceMod, Nat.reduceDiv, Int.reduceNeg, Int.reduceLE, Int.reduceLT, Int.reduceToNat, Int.reduceEq, Int.reduceNe, ↓reduceIte,  hlt, hu, a3, hs2, rowS_len (d := d) (l := l) (i := i) (j := 4) (by omega), hb, at_map (f := encUW) hlt, Option.map_some, List.drop_zero]
    refine ⟨by decide +kernel, ?_⟩
    refine ih (i + 1) _ (by omega) (by omega) ?_
    set_option maxRecDepth 100000 in simp (maxSteps := 10000000) only [go_sem, Nat.reduceAdd, Nat.reduceSub, Nat.reduceMul, Nat.reduceLT, Nat.reduceLeDiff, Nat.reduceEqDiff, Nat.reduceMod, Nat.reduceDiv, Int.reduceNeg, Int.reduceLE, Int.reduceLT, Int.reduceToNat, Int.reduceEq, Int.reduceNe, ↓reduceIte,  wrap_succ (show i < 9223372036854775807 by omega), rowS_eq (d := d) hlt (show 4 < d.n by omega) hu, rowS_ne (d := d) hlt (show 0 < d.n by omega) (by rw [hu]; decide) a1, rowS_ne (d := d) hlt (show 1 < d.n by omega) (by rw [hu]; decide) a1, rowS_ne (d := d) hlt (show 2 < d.n by omega) (by rw [hu]; decide) a1, rowS_ne (d := d) hlt (show 3 < d.n by omega) (by rw [hu]; decide) a1]

end Go.Proofs.Ytdfdagfgkijpcaa.C06
