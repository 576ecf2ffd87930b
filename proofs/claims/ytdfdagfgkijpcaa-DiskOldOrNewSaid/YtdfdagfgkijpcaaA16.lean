/- Chapter 6: a unit that failed, one that was replaced: for one to five units. Printed by gen_a16.py. -/
import Derived.Test.YtdfdagfgkijpcaaA15
namespace Go.Proofs.Ytdfdagfgkijpcaa.C06
open Go Go.Proofs Go.Proofs.Ytdfdagfgkijpcaa.Ab
set_option linter.unusedSimpArgs false
set_option linter.unusedVariables false
attribute [local congr] ite_ctx

theorem Repeat50_good (s : ByteArray) (n : Nat) (h1 : 1 ≤ n) (h2 : n ≤ 10) : Ans Try.prog 50 [.sl [[.str s]], .int .i64 (n : Int)] (.sl ((List.replicate n s).map encStr)) := by
  rw [List.map_replicate]
  have hn : n = 1 ∨ n = 2 ∨ n = 3 ∨ n = 4 ∨ n = 5 ∨ n = 6 ∨ n = 7 ∨ n = 8 ∨ n = 9 ∨ n = 10 := by omega
  rcases hn with rfl | rfl | rfl | rfl | rfl | rfl | rfl | rfl | rfl | rfl
  · exact rep50_1 s
  · exact rep50_2 s
  · exact rep50_3 s
  · exact rep50_4 s
  · exact rep50_5 s
  · exact rep50_6 s
  · exact rep50_7 s
  · exact rep50_8 s
  · exact rep50_9 s
  · exact rep50_10 s
/-- Rows that are told in other words. -/
inductive RLe : List (List AV) → List (List AV) → Prop
  | nil : RLe [] []
  | same (x : List AV) {xs ys : List (List AV)} (h : RLe xs ys) : RLe (x :: xs) (x :: ys)
  | gone (a : AV) {xs ys : List (List AV)} (h : RLe xs ys) : RLe ([a, .nils] :: xs) ([a, .sl []] :: ys)
theorem RLe.len {xs ys : List (List AV)} (h : RLe xs ys) : xs.length = ys.length := by
  induction h <;> simp_all
theorem RLe.row {xs ys : List (List AV)} (h : RLe xs ys) : ∀ (i : Nat) (x y : List AV), xs[i]? = some x → ys[i]? = some y → x.length = y.length ∧ ∀ (j : Nat) (a b : AV), x[j]? = some a → y[j]? = some b → AVle a b := by
  induction h with
  | nil => intro i x y h1 h2; simp at h1
  | same x h ih =>
    intro i u v h1 h2
    cases i with
    | zero =>
      simp at h1 h2; subst h1 h2
      refine ⟨rfl, fun j a b q1 q2 => ?_⟩
      rw [q1] at q2; cases q2; exact .refl _
    | succ i => exact ih i u v (by simpa using h1) (by simpa using h2)
  | gone c h ih =>
    intro i u v h1 h2
    cases i with
    | zero =>
      simp at h1 h2; subst h1 h2
      refine ⟨rfl, fun j a b q1 q2 => ?_⟩
      match j, q1, q2 with
      | 0, q1, q2 => simp at q1 q2; subst q1 q2; exact .refl _
      | 1, q1, q2 => simp at q1 q2; subst q1 q2; exact .nils
      | j + 2, q1, q2 => simp at q1
    | succ i => exact ih i u v (by simpa using h1) (by simpa using h2)
theorem RLe.sl {xs ys : List (List AV)} (h : RLe xs ys) : AVle (.sl xs) (.sl ys) := .sl _ _ h.len (fun i x y h1 h2 => (h.row i x y h1 h2).1) (fun i j x y a b h1 h2 h3 h4 => (h.row i x y h1 h2).2 j a b h3 h4)
theorem le_disk {k s c : Int} {xs ys : List (List AV)} (h : RLe xs ys) : AVle (.tup [.agg [.int .i64 k, .int .i64 s, .sl xs], .int .i64 c]) (.tup [.agg [.int .i64 k, .int .i64 s, .sl ys], .int .i64 c]) := by
  refine .tup _ _ rfl fun i x y h1 h2 => ?_
  match i, h1, h2 with
  | 0, h1, h2 =>
    simp at h1 h2; subst h1 h2
    refine .agg _ _ rfl fun j a b q1 q2 => ?_
    match j, q1, q2 with
    | 0, q1, q2 => simp at q1 q2; subst q1 q2; exact .refl _
    | 1, q1, q2 => simp at q1 q2; subst q1 q2; exact .refl _
    | 2, q1, q2 => simp at q1 q2; subst q1 q2; exact h.sl
    | j + 3, q1, q2 => simp at q1
  | 1, h1, h2 => simp at h1 h2; subst h1 h2; exact .refl _
  | i + 2, h1, h2 => simp at h1

def failD (d : Disk) (u : Nat) : Disk := { d with units := d.units.set u ⟨1, []⟩ }
def freshD (d : Disk) (u : Nat) : Disk := { d with units := d.units.set u ⟨2, List.replicate d.sz zeroB⟩ }
theorem uE_zero {d : Disk} {u st : Int} {b : Bool} (h : uE d u st b = 0) : (dE d).2 = 0 ∧ (0 ≤ u ∧ u.toNat < d.n) ∧ decide ((d.at u.toNat).state = st) = b := by
  unfold uE at h
  split at h
  · rename_i q; exact absurd h q
  split at h
  · cases h
  split at h
  · cases h
  rename_i h1 h2 h3
  have h2' : inB u 0 ((d.units.length : Int) - 1) = true := by simpa using h2
  simp only [inB, decide_eq_true_eq] at h2'
  refine ⟨Classical.not_not.1 h1, ⟨h2'.1, ?_⟩, Classical.not_not.1 h3⟩
  unfold Disk.n; omega

set_option maxHeartbeats 8000000 in
theorem Failed_1 (d : Disk) (hf : FitD d) (hn : d.n = 1) (u : Int) (hu : uE d u 1 false = 0) : Ans Try.prog 23 [.agg (encDisk d), .int .i64 u] (.tup [.agg (encDisk (failD d u.toNat)), .int .i64 0]) := by
  obtain ⟨h0, ⟨hu0, hul⟩, hst⟩ := uE_zero hu
  have hO := okd_of h0
  have hz := hO.sz10
  have hue := unitErr_good d hf u 1 false
  rw [hu] at hue
  have hlens : ∀ j, j < d.n → (d.at j).secs.length ≤ 1000000 := fun j hj => by have := hf.m _ (nth_mem (l := d.units) hj); exact Nat.le_trans this (by decide)
  have how := owned_1 d.kind d.size (d.at 0) (hlens 0 (by omega))
  have hdd := units_1 hn
  rw [← hdd] at how
  have hrp := Repeat50_good zeroB d.sz hz.1 hz.2.1
  rw [hz.2.2] at hrp
  have hcs : u = 0 := by omega
  subst hcs
  have hE : AV.agg (encDisk (failD d (0 : Int).toNat)) = .agg [.int .i64 d.kind, .int .i64 d.size, .sl [[.int .i64 1, .sl []]]] := by
    conv => lhs; rw [hdd]
    rfl
  rw [hE]
  refine good_runL [(3000006, [], [103000000000000001000016, 103000000000000001001016, 103000000000000001002016, 103000000000000001003016, 103000000000000001004016, 101000000000000000000016])] mixed Try.func23 rfl Try.ntmps23 (rs := [.cell 4 24, .tmp 5]) rfl (by decide +kernel) (by kernel_rfl) rfl ?_
  rw [startE_eq 23 _ _ _ rfl rfl]
  set_option maxRecDepth 100000 in simp (maxSteps := 10000000) only [go_sem, Nat.reduceAdd, Nat.reduceSub, Nat.reduceMul, Nat.reduceLT, Nat.reduceLeDiff, Nat.reduceEqDiff, Nat.reduceMod, Nat.reduceDiv, Int.reduceNeg, Int.reduceLE, Int.reduceLT, Int.reduceToNat, Int.reduceEq, Int.reduceNe, ↓reduceIte]
  refine call_of (hue) ?_
  set_option maxRecDepth 100000 in simp (maxSteps := 10000000) only [go_sem, Nat.reduceAdd, Nat.reduceSub, Nat.reduceMul, Nat.reduceLT, Nat.reduceLeDiff, Nat.reduceEqDiff, Nat.reduceMod, Nat.reduceDiv, Int.reduceNeg, Int.reduceLE, Int.reduceLT, Int.reduceToNat, Int.reduceEq, Int.reduceNe, ↓reduceIte]
  refine callM_of [] [16, 8] (how) ⟨rfl, rfl, rfl, by simp, by simp, by simp, by simp, rfl, rfl, rfl, onodup_of (l := [6, 12]) rfl (by decide)⟩ ?_
  set_option maxRecDepth 100000 in simp (maxSteps := 10000000) only [go_sem, Nat.reduceAdd, Nat.reduceSub, Nat.reduceMul, Nat.reduceLT, Nat.reduceLeDiff, Nat.reduceEqDiff, Nat.reduceMod, Nat.reduceDiv, Int.reduceNeg, Int.reduceLE, Int.reduceLT, Int.reduceToNat, Int.reduceEq, Int.reduceNe, ↓reduceIte]
  refine retL_of (le_disk (.gone _ .nil)) ?_
  set_option maxRecDepth 100000 in simp (maxSteps := 10000000) only [go_sem, Nat.reduceAdd, Nat.reduceSub, Nat.reduceMul, Nat.reduceLT, Nat.reduceLeDiff, Nat.reduceEqDiff, Nat.reduceMod, Nat.reduceDiv, Int.reduceNeg, Int.reduceLE, Int.reduceLT, Int.reduceToNat, Int.reduceEq, Int.reduceNe, ↓reduceIte]
set_option maxHeartbeats 8000000 in
theorem Failed_2 (d : Disk) (hf : FitD d) (hn : d.n = 2) (u : Int) (hu : uE d u 1 false = 0) : Ans Try.prog 23 [.agg (encDisk d), .int .i64 u] (.tup [.agg (encDisk (failD d u.toNat)), .int .i64 0]) := by
  obtain ⟨h0, ⟨hu0, hul⟩, hst⟩ := uE_zero hu
  have hO := okd_of h0
  have hz := hO.sz10
  have hue := unitErr_good d hf u 1 false
  rw [hu] at hue
  have hlens : ∀ j, j < d.n → (d.at j).secs.length ≤ 1000000 := fun j hj => by have := hf.m _ (nth_mem (l := d.units) hj); exact Nat.le_trans this (by decide)
  have how := owned_2 d.kind d.size (d.at 0) (d.at 1) (hlens 0 (by omega)) (hlens 1 (by omega))
  have hdd := units_2 hn
  rw [← hdd] at how
  have hrp := Repeat50_good zeroB d.sz hz.1 hz.2.1
  rw [hz.2.2] at hrp
  have hcs : u = 0 ∨ u = 1 := by omega
  rcases hcs with rfl | rfl
  · have hE : AV.agg (encDisk (failD d (0 : Int).toNat)) = .agg [.int .i64 d.kind, .int .i64 d.size, .sl [[.int .i64 1, .sl []], [.int .i64 (d.at 1).state, .sl ((d.at 1).secs.map encStr)]]] := by
      conv => lhs; rw [hdd]
      rfl
    rw [hE]
    refine good_runL [(3000006, [], [103000000000000001000016, 103000000000000001001016, 103000000000000001002016, 103000000000000001003016, 103000000000000001004016, 101000000000000000000016])] mixed Try.func23 rfl Try.ntmps23 (rs := [.cell 4 24, .tmp 5]) rfl (by decide +kernel) (by kernel_rfl) rfl ?_
    rw [startE_eq 23 _ _ _ rfl rfl]
    set_option maxRecDepth 100000 in simp (maxSteps := 10000000) only [go_sem, Nat.reduceAdd, Nat.reduceSub, Nat.reduceMul, Nat.reduceLT, Nat.reduceLeDiff, Nat.reduceEqDiff, Nat.reduceMod, Nat.reduceDiv, Int.reduceNeg, Int.reduceLE, Int.reduceLT, Int.reduceToNat, Int.reduceEq, Int.reduceNe, ↓reduceIte]
    refine call_of (hue) ?_
    set_option maxRecDepth 100000 in simp (maxSteps := 10000000) only [go_sem, Nat.reduceAdd, Nat.reduceSub, Nat.reduceMul, Nat.reduceLT, Nat.reduceLeDiff, Nat.reduceEqDiff, Nat.reduceMod, Nat.reduceDiv, Int.reduceNeg, Int.reduceLE, Int.reduceLT, Int.reduceToNat, Int.reduceEq, Int.reduceNe, ↓reduceIte]
    refine callM_of [] [16, 8, 9] (how) ⟨rfl, rfl, rfl, by simp, by simp, by simp, by simp, rfl, rfl, rfl, onodup_of (l := [6, 12, 13]) rfl (by decide)⟩ ?_
    set_option maxRecDepth 100000 in simp (maxSteps := 10000000) only [go_sem, Nat.reduceAdd, Nat.reduceSub, Nat.reduceMul, Nat.reduceLT, Nat.reduceLeDiff, Nat.reduceEqDiff, Nat.reduceMod, Nat.reduceDiv, Int.reduceNeg, Int.reduceLE, Int.reduceLT, Int.reduceToNat, Int.reduceEq, Int.reduceNe, ↓reduceIte]
    refine retL_of (le_disk (.gone _ (.same _ .nil))) ?_
    set_option maxRecDepth 100000 in simp (maxSteps := 10000000) only [go_sem, Nat.reduceAdd, Nat.reduceSub, Nat.reduceMul, Nat.reduceLT, Nat.reduceLeDiff, Nat.reduceEqDiff, Nat.reduceMod, Nat.reduceDiv, Int.reduceNeg, Int.reduceLE, Int.reduceLT, Int.reduceToNat, Int.reduceEq, Int.reduceNe, ↓reduceIte]
  · have hE : AV.agg (encDisk (failD d (1 : Int).toNat)) = .agg [.int .i64 d.kind, .int .i64 d.size, .sl [[.int .i64 (d.at 0).state, .sl ((d.at 0).secs.map encStr)], [.int .i64 1, .sl []]]] := by
      conv => lhs; rw [hdd]
      rfl
    rw [hE]
    refine good_runL [(3000006, [], [103000000000000001000016, 103000000000000001001016, 103000000000000001002016, 103000000000000001003016, 103000000000000001004016, 101000000000000000000016])] mixed Try.func23 rfl Try.ntmps23 (rs := [.cell 4 24, .tmp 5]) rfl (by decide +kernel) (by kernel_rfl) rfl ?_
    rw [startE_eq 23 _ _ _ rfl rfl]
    set_option maxRecDepth 100000 in simp (maxSteps := 10000000) only [go_sem, Nat.reduceAdd, Nat.reduceSub, Nat.reduceMul, Nat.reduceLT, Nat.reduceLeDiff, Nat.reduceEqDiff, Nat.reduceMod, Nat.reduceDiv, Int.reduceNeg, Int.reduceLE, Int.reduceLT, Int.reduceToNat, Int.reduceEq, Int.reduceNe, ↓reduceIte]
    refine call_of (hue) ?_
    set_option maxRecDepth 100000 in simp (maxSteps := 10000000) only [go_sem, Nat.reduceAdd, Nat.reduceSub, Nat.reduceMul, Nat.reduceLT, Nat.reduceLeDiff, Nat.reduceEqDiff, Nat.reduceMod, Nat.reduceDiv, Int.reduceNeg, Int.reduceLE, Int.reduceLT, Int.reduceToNat, Int.reduceEq, Int.reduceNe, ↓reduceIte]
    refine callM_of [] [16, 8, 9] (how) ⟨rfl, rfl, rfl, by simp, by simp, by simp, by simp, rfl, rfl, rfl, onodup_of (l := [6, 12, 13]) rfl (by decide)⟩ ?_
    set_option maxRecDepth 100000 in simp (maxSteps := 10000000) only [go_sem, Nat.reduceAdd, Nat.reduceSub, Nat.reduceMul, Nat.reduceLT, Nat.reduceLeDiff, Nat.reduceEqDiff, Nat.reduceMod, Nat.reduceDiv, Int.reduceNeg, Int.reduceLE, Int.reduceLT, Int.reduceToNat, Int.reduceEq, Int.reduceNe, ↓reduceIte]
    refine retL_of (le_disk (.same _ (.gone _ .nil))) ?_
    set_option maxRecDepth 100000 in simp (maxSteps := 10000000) only [go_sem, Nat.reduceAdd, Nat.reduceSub, Nat.reduceMul, Nat.reduceLT, Nat.reduceLeDiff, Nat.reduceEqDiff, Nat.reduceMod, Nat.reduceDiv, Int.reduceNeg, Int.reduceLE, Int.reduceLT, Int.reduceToNat, Int.reduceEq, Int.reduceNe, ↓reduceIte]
set_option maxHeartbeats 8000000 in
theorem Failed_3 (d : Disk) (hf : FitD d) (hn : d.n = 3) (u : Int) (hu : uE d u 1 false = 0) : Ans Try.prog 23 [.agg (encDisk d), .int .i64 u] (.tup [.agg (encDisk (failD d u.toNat)), .int .i64 0]) := by
  obtain ⟨h0, ⟨hu0, hul⟩, hst⟩ := uE_zero hu
  have hO := okd_of h0
  have hz := hO.sz10
  have hue := unitErr_good d hf u 1 false
  rw [hu] at hue
  have hlens : ∀ j, j < d.n → (d.at j).secs.length ≤ 1000000 := fun j hj => by have := hf.m _ (nth_mem (l := d.units) hj); exact Nat.le_trans this (by decide)
  have how := owned_3 d.kind d.size (d.at 0) (d.at 1) (d.at 2) (hlens 0 (by omega)) (hlens 1 (by omega)) (hlens 2 (by omega))
  have hdd := units_3 hn
  rw [← hdd] at how
  have hrp := Repeat50_good zeroB d.sz hz.1 hz.2.1
  rw [hz.2.2] at hrp
  have hcs : u = 0 ∨ u = 1 ∨ u = 2 := by omega
  rcases hcs with rfl | rfl | rfl
  · have hE : AV.agg (encDisk (failD d (0 : Int).toNat)) = .agg [.int .i64 d.kind, .int .i64 d.size, .sl [[.int .i64 1, .sl []], [.int .i64 (d.at 1).state, .sl ((d.at 1).secs.map encStr)], [.int .i64 (d.at 2).state, .sl ((d.at 2).secs.map encStr)]]] := by
      conv => lhs; rw [hdd]
      rfl
    rw [hE]
    refine good_runL [(3000006, [], [103000000000000001000016, 103000000000000001001016, 103000000000000001002016, 103000000000000001003016, 103000000000000001004016, 101000000000000000000016])] mixed Try.func23 rfl Try.ntmps23 (rs := [.cell 4 24, .tmp 5]) rfl (by decide +kernel) (by kernel_rfl) rfl ?_
    rw [startE_eq 23 _ _ _ rfl rfl]
    set_option maxRecDepth 100000 in simp (maxSteps := 10000000) only [go_sem, Nat.reduceAdd, Nat.reduceSub, Nat.reduceMul, Nat.reduceLT, Nat.reduceLeDiff, Nat.reduceEqDiff, Nat.reduceMod, Nat.reduceDiv, Int.reduceNeg, Int.reduceLE, Int.reduceLT, Int.reduceToNat, Int.reduceEq, Int.reduceNe, ↓reduceIte]
    refine call_of (hue) ?_
    set_option maxRecDepth 100000 in simp (maxSteps := 10000000) only [go_sem, Nat.reduceAdd, Nat.reduceSub, Nat.reduceMul, Nat.reduceLT, Nat.reduceLeDiff, Nat.reduceEqDiff, Nat.reduceMod, Nat.reduceDiv, Int.reduceNeg, Int.reduceLE, Int.reduceLT, Int.reduceToNat, Int.reduceEq, Int.reduceNe, ↓reduceIte]
    refine callM_of [] [16, 8, 9, 10] (how) ⟨rfl, rfl, rfl, by simp, by simp, by simp, by simp, rfl, rfl, rfl, onodup_of (l := [6, 12, 13, 14]) rfl (by decide)⟩ ?_
    set_option maxRecDepth 100000 in simp (maxSteps := 10000000) only [go_sem, Nat.reduceAdd, Nat.reduceSub, Nat.reduceMul, Nat.reduceLT, Nat.reduceLeDiff, Nat.reduceEqDiff, Nat.reduceMod, Nat.reduceDiv, Int.reduceNeg, Int.reduceLE, Int.reduceLT, Int.reduceToNat, Int.reduceEq, Int.reduceNe, ↓reduceIte]
    refine retL_of (le_disk (.gone _ (.same _ (.same _ .nil)))) ?_
    set_option maxRecDepth 100000 in simp (maxSteps := 10000000) only [go_sem, Nat.reduceAdd, Nat.reduceSub, Nat.reduceMul, Nat.reduceLT, Nat.reduceLeDiff, Nat.reduceEqDiff, Nat.reduceMod, Nat.reduceDiv, Int.reduceNeg, Int.reduceLE, Int.reduceLT, Int.reduceToNat, Int.reduceEq, Int.reduceNe, ↓reduceIte]
  · have hE : AV.agg (encDisk (failD d (1 : Int).toNat)) = .agg [.int .i64 d.kind, .int .i64 d.size, .sl [[.int .i64 (d.at 0).state, .sl ((d.at 0).secs.map encStr)], [.int .i64 1, .sl []], [.int .i64 (d.at 2).state, .sl ((d.at 2).secs.map encStr)]]] := by
      conv => lhs; rw [hdd]
      rfl
    rw [hE]
    refine good_runL [(3000006, [], [103000000000000001000016, 103000000000000001001016, 103000000000000001002016, 103000000000000001003016, 103000000000000001004016, 101000000000000000000016])] mixed Try.func23 rfl Try.ntmps23 (rs := [.cell 4 24, .tmp 5]) rfl (by decide +kernel) (by kernel_rfl) rfl ?_
    rw [startE_eq 23 _ _ _ rfl rfl]
    set_option maxRecDepth 100000 in simp (maxSteps := 10000000) only [go_sem, Nat.reduceAdd, Nat.reduceSub, Nat.reduceMul, Nat.reduceLT, Nat.reduceLeDiff, Nat.reduceEqDiff, Nat.reduceMod, Nat.reduceDiv, Int.reduceNeg, Int.reduceLE, Int.reduceLT, Int.reduceToNat, Int.reduceEq, Int.reduceNe, ↓reduceIte]
    refine call_of (hue) ?_
    set_option maxRecDepth 100000 in simp (maxSteps := 10000000) only [go_sem, Nat.reduceAdd, Nat.reduceSub, Nat.reduceMul, Nat.reduceLT, Nat.reduceLeDiff, Nat.reduceEqDiff, Nat.reduceMod, Nat.reduceDiv, Int.reduceNeg, Int.reduceLE, Int.reduceLT, Int.reduceToNat, Int.reduceEq, Int.reduceNe, ↓reduceIte]
    refine callM_of [] [16, 8, 9, 10] (how) ⟨rfl, rfl, rfl, by simp, by simp, by simp, by simp, rfl, rfl, rfl, onodup_of (l := [6, 12, 13, 14]) rfl (by decide)⟩ ?_
    set_option maxRecDepth 100000 in simp (maxSteps := 10000000) only [go_sem, Nat.reduceAdd, Nat.reduceSub, Nat.reduceMul, Nat.reduceLT, Nat.reduceLeDiff, Nat.reduceEqDiff, Nat.reduceMod, Nat.reduceDiv, Int.reduceNeg, Int.reduceLE, Int.reduceLT, Int.reduceToNat, Int.reduceEq, Int.reduceNe, ↓reduceIte]
    refine retL_of (le_disk (.same _ (.gone _ (.same _ .nil)))) ?_
    set_option maxRecDepth 100000 in simp (maxSteps := 10000000) only [go_sem, Nat.reduceAdd, Nat.reduceSub, Nat.reduceMul, Nat.reduceLT, Nat.reduceLeDiff, Nat.reduceEqDiff, Nat.reduceMod, Nat.reduceDiv, Int.reduceNeg, Int.reduceLE, Int.reduceLT, Int.reduceToNat, Int.reduceEq, Int.reduceNe, ↓reduceIte]
  · have hE : AV.agg (encDisk (failD d (2 : Int).toNat)) = .agg [.int .i64 d.kind, .int .i64 d.size, .sl [[.int .i64 (d.at 0).state, .sl ((d.at 0).secs.map encStr)], [.int .i64 (d.at 1).state, .sl ((d.at 1).secs.map encStr)], [.int .i64 1, .sl []]]] := by
      conv => lhs; rw [hdd]
      rfl
    rw [hE]
    refine good_runL [(3000006, [], [103000000000000001000016, 103000000000000001001016, 103000000000000001002016, 103000000000000001003016, 103000000000000001004016, 101000000000000000000016])] mixed Try.func23 rfl Try.ntmps23 (rs := [.cell 4 24, .tmp 5]) rfl (by decide +kernel) (by kernel_rfl) rfl ?_
    rw [startE_eq 23 _ _ _ rfl rfl]
    set_option maxRecDepth 100000 in simp (maxSteps := 10000000) only [go_sem, Nat.reduceAdd, Nat.reduceSub, Nat.reduceMul, Nat.reduceLT, Nat.reduceLeDiff, Nat.reduceEqDiff, Nat.reduceMod, Nat.reduceDiv, Int.reduceNeg, Int.reduceLE, Int.reduceLT, Int.reduceToNat, Int.reduceEq, Int.reduceNe, ↓reduceIte]
    refine call_of (hue) ?_
    set_option maxRecDepth 100000 in simp (maxSteps := 10000000) only [go_sem, Nat.reduceAdd, Nat.reduceSub, Nat.reduceMul, Nat.reduceLT, Nat.reduceLeDiff, Nat.reduceEqDiff, Nat.reduceMod, Nat.reduceDiv, Int.reduceNeg, Int.reduceLE, Int.reduceLT, Int.reduceToNat, Int.reduceEq, Int.reduceNe, ↓reduceIte]
    refine callM_of [] [16, 8, 9, 10] (how) ⟨rfl, rfl, rfl, by simp, by simp, by simp, by simp, rfl, rfl, rfl, onodup_of (l := [6, 12, 13, 14]) rfl (by decide)⟩ ?_
    set_option maxRecDepth 100000 in simp (maxSteps := 10000000) only [go_sem, Nat.reduceAdd, Nat.reduceSub, Nat.reduceMul, Nat.reduceLT, Nat.reduceLeDiff, Nat.reduceEqDiff, Nat.reduceMod, Nat.reduceDiv, Int.reduceNeg, Int.reduceLE, Int.reduceLT, Int.reduceToNat, Int.reduceEq, Int.reduceNe, ↓reduceIte]
    refine retL_of (le_disk (.same _ (.same _ (.gone _ .nil)))) ?_
    set_option maxRecDepth 100000 in simp (maxSteps := 10000000) only [go_sem, Nat.reduceAdd, Nat.reduceSub, Nat.reduceMul, Nat.reduceLT, Nat.reduceLeDiff, Nat.reduceEqDiff, Nat.reduceMod, Nat.reduceDiv, Int.reduceNeg, Int.reduceLE, Int.reduceLT, Int.reduceToNat, Int.reduceEq, Int.reduceNe, ↓reduceIte]
set_option maxHeartbeats 8000000 in
theorem Failed_4 (d : Disk) (hf : FitD d) (hn : d.n = 4) (u : Int) (hu : uE d u 1 false = 0) : Ans Try.prog 23 [.agg (encDisk d), .int .i64 u] (.tup [.agg (encDisk (failD d u.toNat)), .int .i64 0]) := by
  obtain ⟨h0, ⟨hu0, hul⟩, hst⟩ := uE_zero hu
  have hO := okd_of h0
  have hz := hO.sz10
  have hue := unitErr_good d hf u 1 false
  rw [hu] at hue
  have hlens : ∀ j, j < d.n → (d.at j).secs.length ≤ 1000000 := fun j hj => by have := hf.m _ (nth_mem (l := d.units) hj); exact Nat.le_trans this (by decide)
  have how := owned_4 d.kind d.size (d.at 0) (d.at 1) (d.at 2) (d.at 3) (hlens 0 (by omega)) (hlens 1 (by omega)) (hlens 2 (by omega)) (hlens 3 (by omega))
  have hdd := units_4 hn
  rw [← hdd] at how
  have hrp := Repeat50_good zeroB d.sz hz.1 hz.2.1
  rw [hz.2.2] at hrp
  have hcs : u = 0 ∨ u = 1 ∨ u = 2 ∨ u = 3 := by omega
  rcases hcs with rfl | rfl | rfl | rfl
  · have hE : AV.agg (encDisk (failD d (0 : Int).toNat)) = .agg [.int .i64 d.kind, .int .i64 d.size, .sl [[.int .i64 1, .sl []], [.int .i64 (d.at 1).state, .sl ((d.at 1).secs.map encStr)], [.int .i64 (d.at 2).state, .sl ((d.at 2).secs.map encStr)], [.int .i64 (d.at 3).state, .sl ((d.at 3).secs.map encStr)]]] := by
      conv => lhs; rw [hdd]
      rfl
    rw [hE]
    refine good_runL [(3000006, [], [103000000000000001000016, 103000000000000001001016, 103000000000000001002016, 103000000000000001003016, 103000000000000001004016, 101000000000000000000016])] mixed Try.func23 rfl Try.ntmps23 (rs := [.cell 4 24, .tmp 5]) rfl (by decide +kernel) (by kernel_rfl) rfl ?_
    rw [startE_eq 23 _ _ _ rfl rfl]
    set_option maxRecDepth 100000 in simp (maxSteps := 10000000) only [go_sem, Nat.reduceAdd, Nat.reduceSub, Nat.reduceMul, Nat.reduceLT, Nat.reduceLeDiff, Nat.reduceEqDiff, Nat.reduceMod, Nat.reduceDiv, Int.reduceNeg, Int.reduceLE, Int.reduceLT, Int.reduceToNat, Int.reduceEq, Int.reduceNe, ↓reduceIte]
    refine call_of (hue) ?_
    set_option maxRecDepth 100000 in simp (maxSteps := 10000000) only [go_sem, Nat.reduceAdd, Nat.reduceSub, Nat.reduceMul, Nat.reduceLT, Nat.reduceLeDiff, Nat.reduceEqDiff, Nat.reduceMod, Nat.reduceDiv, Int.reduceNeg, Int.reduceLE, Int.reduceLT, Int.reduceToNat, Int.reduceEq, Int.reduceNe, ↓reduceIte]
    refine callM_of [] [16, 8, 9, 10, 11] (how) ⟨rfl, rfl, rfl, by simp, by simp, by simp, by simp, rfl, rfl, rfl, onodup_of (l := [6, 12, 13, 14, 15]) rfl (by decide)⟩ ?_
    set_option maxRecDepth 100000 in simp (maxSteps := 10000000) only [go_sem, Nat.reduceAdd, Nat.reduceSub, Nat.reduceMul, Nat.reduceLT, Nat.reduceLeDiff, Nat.reduceEqDiff, Nat.reduceMod, Nat.reduceDiv, Int.reduceNeg, Int.reduceLE, Int.reduceLT, Int.reduceToNat, Int.reduceEq, Int.reduceNe, ↓reduceIte]
    refine retL_of (le_disk (.gone _ (.same _ (.same _ (.same _ .nil))))) ?_
    set_option maxRecDepth 100000 in simp (maxSteps := 10000000) only [go_sem, Nat.reduceAdd, Nat.reduceSub, Nat.reduceMul, Nat.reduceLT, Nat.reduceLeDiff, Nat.reduceEqDiff, Nat.reduceMod, Nat.reduceDiv, Int.reduceNeg, Int.reduceLE, Int.reduceLT, Int.reduceToNat, Int.reduceEq, Int.reduceNe, ↓reduceIte]
  · have hE : AV.agg (encDisk (failD d (1 : Int).toNat)) = .agg [.int .i64 d.kind, .int .i64 d.size, .sl [[.int .i64 (d.at 0).state, .sl ((d.at 0).secs.map encStr)], [.int .i64 1, .sl []], [.int .i64 (d.at 2).state, .sl ((d.at 2).secs.map encStr)], [.int .i64 (d.at 3).state, .sl ((d.at 3).secs.map encStr)]]] := by
      conv => lhs; rw [hdd]
      rfl
    rw [hE]
    refine good_runL [(3000006, [], [103000000000000001000016, 103000000000000001001016, 103000000000000001002016, 103000000000000001003016, 103000000000000001004016, 101000000000000000000016])] mixed Try.func23 rfl Try.ntmps23 (rs := [.cell 4 24, .tmp 5]) rfl (by decide +kernel) (by kernel_rfl) rfl ?_
    rw [startE_eq 23 _ _ _ rfl rfl]
    set_option maxRecDepth 100000 in simp (maxSteps := 10000000) only [go_sem, Nat.reduceAdd, Nat.reduceSub, Nat.reduceMul, Nat.reduceLT, Nat.reduceLeDiff, Nat.reduceEqDiff, Nat.reduceMod, Nat.reduceDiv, Int.reduceNeg, Int.reduceLE, Int.reduceLT, Int.reduceToNat, Int.reduceEq, Int.reduceNe, ↓reduceIte]
    refine call_of (hue) ?_
    set_option maxRecDepth 100000 in simp (maxSteps := 10000000) only [go_sem, Nat.reduceAdd, Nat.reduceSub, Nat.reduceMul, Nat.reduceLT, Nat.reduceLeDiff, Nat.reduceEqDiff, Nat.reduceMod, Nat.reduceDiv, Int.reduceNeg, Int.reduceLE, Int.reduceLT, Int.reduceToNat, Int.reduceEq, Int.reduceNe, ↓reduceIte]
    refine callM_of [] [16, 8, 9, 10, 11] (how) ⟨rfl, rfl, rfl, by simp, by simp, by simp, by simp, rfl, rfl, rfl, onodup_of (l := [6, 12, 13, 14, 15]) rfl (by decide)⟩ ?_
    set_option maxRecDepth 100000 in simp (maxSteps := 10000000) only [go_sem, Nat.reduceAdd, Nat.reduceSub, Nat.reduceMul, Nat.reduceLT, Nat.reduceLeDiff, Nat.reduceEqDiff, Nat.reduceMod, Nat.reduceDiv, Int.reduceNeg, Int.reduceLE, Int.reduceLT, Int.reduceToNat, Int.reduceEq, Int.reduceNe, ↓reduceIte]
    refine retL_of (le_disk (.same _ (.gone _ (.same _ (.same _ .nil))))) ?_
    set_option maxRecDepth 100000 in simp (maxSteps := 10000000) only [go_sem, Nat.reduceAdd, Nat.reduceSub, Nat.reduceMul, Nat.reduceLT, Nat.reduceLeDiff, Nat.reduceEqDiff, Nat.reduceMod, Nat.reduceDiv, Int.reduceNeg, Int.reduceLE, Int.reduceLT, Int.reduceToNat, Int.reduceEq, Int.reduceNe, ↓reduceIte]
  · have hE : AV.agg (encDisk (failD d (2 : Int).toNat)) = .agg [.int .i64 d.kind, .int .i64 d.size, .sl [[.int .i64 (d.at 0).state, .sl ((d.at 0).secs.map encStr)], [.int .i64 (d.at 1).state, .sl ((d.at 1).secs.map encStr)], [.int .i64 1, .sl []], [.int .i64 (d.at 3).state, .sl ((d.at 3).secs.map encStr)]]] := by
      conv => lhs; rw [hdd]
      rfl
    rw [hE]
    refine good_runL [(3000006, [], [103000000000000001000016, 103000000000000001001016, 103000000000000001002016, 103000000000000001003016, 103000000000000001004016, 101000000000000000000016])] mixed Try.func23 rfl Try.ntmps23 (rs := [.cell 4 24, .tmp 5]) rfl (by decide +kernel) (by kernel_rfl) rfl ?_
    rw [startE_eq 23 _ _ _ rfl rfl]
    set_option maxRecDepth 100000 in simp (maxSteps := 10000000) only [go_sem, Nat.reduceAdd, Nat.reduceSub, Nat.reduceMul, Nat.reduceLT, Nat.reduceLeDiff, Nat.reduceEqDiff, Nat.reduceMod, Nat.reduceDiv, Int.reduceNeg, Int.reduceLE, Int.reduceLT, Int.reduceToNat, Int.reduceEq, Int.reduceNe, ↓reduceIte]
    refine call_of (hue) ?_
    set_option maxRecDepth 100000 in simp (maxSteps := 10000000) only [go_sem, Nat.reduceAdd, Nat.reduceSub, Nat.reduceMul, Nat.reduceLT, Nat.reduceLeDiff, Nat.reduceEqDiff, Nat.reduceMod, Nat.reduceDiv, Int.reduceNeg, Int.reduceLE, Int.reduceLT, Int.reduceToNat, Int.reduceEq, Int.reduceNe, ↓reduceIte]
    refine callM_of [] [16, 8, 9, 10, 11] (how) ⟨rfl, rfl, rfl, by simp, by simp, by simp, by simp, rfl, rfl, rfl, onodup_of (l := [6, 12, 13, 14, 15]) rfl (by decide)⟩ ?_
    set_option maxRecDepth 100000 in simp (maxSteps := 10000000) only [go_sem, Nat.reduceAdd, Nat.reduceSub, Nat.reduceMul, Nat.reduceLT, Nat.reduceLeDiff, Nat.reduceEqDiff, Nat.reduceMod, Nat.reduceDiv, Int.reduceNeg, Int.reduceLE, Int.reduceLT, Int.reduceToNat, Int.reduceEq, Int.reduceNe, ↓reduceIte]
    refine retL_of (le_disk (.same _ (.same _ (.gone _ (.same _ .nil))))) ?_
    set_option maxRecDepth 100000 in simp (maxSteps := 10000000) only [go_sem, Nat.reduceAdd, Nat.reduceSub, Nat.reduceMul, Nat.reduceLT, Nat.reduceLeDiff, Nat.reduceEqDiff, Nat.reduceMod, Nat.reduceDiv, Int.reduceNeg, Int.reduceLE, Int.reduceLT, Int.reduceToNat, Int.reduceEq, Int.reduceNe, ↓reduceIte]
  · have hE : AV.agg (encDisk (failD d (3 : Int).toNat)) = .agg [.int .i64 d.kind, .int .i64 d.size, .sl [[.int .i64 (d.at 0).state, .sl ((d.at 0).secs.map encStr)], [.int .i64 (d.at 1).state, .sl ((d.at 1).secs.map encStr)], [.int .i64 (d.at 2).state, .sl ((d.at 2).secs.map encStr)], [.int .i64 1, .sl []]]] := by
      conv => lhs; rw [hdd]
      rfl
    rw [hE]
    refine good_runL [(3000006, [], [103000000000000001000016, 103000000000000001001016, 103000000000000001002016, 103000000000000001003016, 103000000000000001004016, 101000000000000000000016])] mixed Try.func23 rfl Try.ntmps23 (rs := [.cell 4 24, .tmp 5]) rfl (by decide +kernel) (by kernel_rfl) rfl ?_
    rw [startE_eq 23 _ _ _ rfl rfl]
    set_option maxRecDepth 100000 in simp (maxSteps := 10000000) only [go_sem, Nat.reduceAdd, Nat.reduceSub, Nat.reduceMul, Nat.reduceLT, Nat.reduceLeDiff, Nat.reduceEqDiff, Nat.reduceMod, Nat.reduceDiv, Int.reduceNeg, Int.reduceLE, Int.reduceLT, Int.reduceToNat, Int.reduceEq, Int.reduceNe, ↓reduceIte]
    refine call_of (hue) ?_
    set_option maxRecDepth 100000 in simp (maxSteps := 10000000) only [go_sem, Nat.reduceAdd, Nat.reduceSub, Nat.reduceMul, Nat.reduceLT, Nat.reduceLeDiff, Nat.reduceEqDiff, Nat.reduceMod, Nat.reduceDiv, Int.reduceNeg, Int.reduceLE, Int.reduceLT, Int.reduceToNat, Int.reduceEq, Int.reduceNe, ↓reduceIte]
    refine callM_of [] [16, 8, 9, 10, 11] (how) ⟨rfl, rfl, rfl, by simp, by simp, by simp, by simp, rfl, rfl, rfl, onodup_of (l := [6, 12, 13, 14, 15]) rfl (by decide)⟩ ?_
    set_option maxRecDepth 100000 in simp (maxSteps := 10000000) only [go_sem, Nat.reduceAdd, Nat.reduceSub, Nat.reduceMul, Nat.reduceLT, Nat.reduceLeDiff, Nat.reduceEqDiff, Nat.reduceMod, Nat.reduceDiv, Int.reduceNeg, Int.reduceLE, Int.reduceLT, Int.reduceToNat, Int.reduceEq, Int.reduceNe, ↓reduceIte]
    refine retL_of (le_disk (.same _ (.same _ (.same _ (.gone _ .nil))))) ?_
    set_option maxRecDepth 100000 in simp (maxSteps := 10000000) only [go_sem, Nat.reduceAdd, Nat.reduceSub, Nat.reduceMul, Nat.reduceLT, Nat.reduceLeDiff, Nat.reduceEqDiff, Nat.reduceMod, Nat.reduceDiv, Int.reduceNeg, Int.reduceLE, Int.reduceLT, Int.reduceToNat, Int.reduceEq, Int.reduceNe, ↓reduceIte]
set_option maxHeartbeats 8000000 in
theorem Failed_5 (d : Disk) (hf : FitD d) (hn : d.n = 5) (u : Int) (hu : uE d u 1 false = 0) : Ans Try.prog 23 [.agg (encDisk d), .int .i64 u] (.tup [.agg (encDisk (failD d u.toNat)), .int .i64 0]) := by
  obtain ⟨h0, ⟨hu0, hul⟩, hst⟩ := uE_zero hu
  have hO := okd_of h0
  have hz := hO.sz10
  have hue := unitErr_good d hf u 1 false
  rw [hu] at hue
  have hlens : ∀ j, j < d.n → (d.at j).secs.length ≤ 1000000 := fun j hj => by have := hf.m _ (nth_mem (l := d.units) hj); exact Nat.le_trans this (by decide)
  have how := owned_5 d.kind d.size (d.at 0) (d.at 1) (d.at 2) (d.at 3) (d.at 4) (hlens 0 (by omega)) (hlens 1 (by omega)) (hlens 2 (by omega)) (hlens 3 (by omega)) (hlens 4 (by omega))
  have hdd := units_5 hn
  rw [← hdd] at how
  have hrp := Repeat50_good zeroB d.sz hz.1 hz.2.1
  rw [hz.2.2] at hrp
  have hcs : u = 0 ∨ u = 1 ∨ u = 2 ∨ u = 3 ∨ u = 4 := by omega
  rcases hcs with rfl | rfl | rfl | rfl | rfl
  · have hE : AV.agg (encDisk (failD d (0 : Int).toNat)) = .agg [.int .i64 d.kind, .int .i64 d.size, .sl [[.int .i64 1, .sl []], [.int .i64 (d.at 1).state, .sl ((d.at 1).secs.map encStr)], [.int .i64 (d.at 2).state, .sl ((d.at 2).secs.map encStr)], [.int .i64 (d.at 3).state, .sl ((d.at 3).secs.map encStr)], [.int .i64 (d.at 4).state, .sl ((d.at 4).secs.map encStr)]]] := by
      conv => lhs; rw [hdd]
      rfl
    rw [hE]
    refine good_runL [(3000006, [], [103000000000000001000016, 103000000000000001001016, 103000000000000001002016, 103000000000000001003016, 103000000000000001004016, 101000000000000000000016])] mixed Try.func23 rfl Try.ntmps23 (rs := [.cell 4 24, .tmp 5]) rfl (by decide +kernel) (by kernel_rfl) rfl ?_
    rw [startE_eq 23 _ _ _ rfl rfl]
    set_option maxRecDepth 100000 in simp (maxSteps := 10000000) only [go_sem, Nat.reduceAdd, Nat.reduceSub, Nat.reduceMul, Nat.reduceLT, Nat.reduceLeDiff, Nat.reduceEqDiff, Nat.reduceMod, Nat.reduceDiv, Int.reduceNeg, Int.reduceLE, Int.reduceLT, Int.reduceToNat, Int.reduceEq, Int.reduceNe, ↓reduceIte]
    refine call_of (hue) ?_
    set_option maxRecDepth 100000 in simp (maxSteps := 10000000) only [go_sem, Nat.reduceAdd, Nat.reduceSub, Nat.reduceMul, Nat.reduceLT, Nat.reduceLeDiff, Nat.reduceEqDiff, Nat.reduceMod, Nat.reduceDiv, Int.reduceNeg, Int.reduceLE, Int.reduceLT, Int.reduceToNat, Int.reduceEq, Int.reduceNe, ↓reduceIte]
    refine callM_of [] [16, 8, 9, 10, 11, 12] (how) ⟨rfl, rfl, rfl, by simp, by simp, by simp, by simp, rfl, rfl, rfl, onodup_of (l := [6, 12, 13, 14, 15, 16]) rfl (by decide)⟩ ?_
    set_option maxRecDepth 100000 in simp (maxSteps := 10000000) only [go_sem, Nat.reduceAdd, Nat.reduceSub, Nat.reduceMul, Nat.reduceLT, Nat.reduceLeDiff, Nat.reduceEqDiff, Nat.reduceMod, Nat.reduceDiv, Int.reduceNeg, Int.reduceLE, Int.reduceLT, Int.reduceToNat, Int.reduceEq, Int.reduceNe, ↓reduceIte]
    refine retL_of (le_disk (.gone _ (.same _ (.same _ (.same _ (.same _ .nil)))))) ?_
    set_option maxRecDepth 100000 in simp (maxSteps := 10000000) only [go_sem, Nat.reduceAdd, Nat.reduceSub, Nat.reduceMul, Nat.reduceLT, Nat.reduceLeDiff, Nat.reduceEqDiff, Nat.reduceMod, Nat.reduceDiv, Int.reduceNeg, Int.reduceLE, Int.reduceLT, Int.reduceToNat, Int.reduceEq, Int.reduceNe, ↓reduceIte]
  · have hE : AV.agg (encDisk (failD d (1 : Int).toNat)) = .agg [.int .i64 d.kind, .int .i64 d.size, .sl [[.int .i64 (d.at 0).state, .sl ((d.at 0).secs.map encStr)], [.int .i64 1, .sl []], [.int .i64 (d.at 2).state, .sl ((d.at 2).secs.map encStr)], [.int .i64 (d.at 3).state, .sl ((d.at 3).secs.map encStr)], [.int .i64 (d.at 4).state, .sl ((d.at 4).secs.map encStr)]]] := by
      conv => lhs; rw [hdd]
      rfl
    rw [hE]
    refine good_runL [(3000006, [], [103000000000000001000016, 103000000000000001001016, 103000000000000001002016, 103000000000000001003016, 103000000000000001004016, 101000000000000000000016])] mixed Try.func23 rfl Try.ntmps23 (rs := [.cell 4 24, .tmp 5]) rfl (by decide +kernel) (by kernel_rfl) rfl ?_
    rw [startE_eq 23 _ _ _ rfl rfl]
    set_option maxRecDepth 100000 in simp (maxSteps := 10000000) only [go_sem, Nat.reduceAdd, Nat.reduceSub, Nat.reduceMul, Nat.reduceLT, Nat.reduceLeDiff, Nat.reduceEqDiff, Nat.reduceMod, Nat.reduceDiv, Int.reduceNeg, Int.reduceLE, Int.reduceLT, Int.reduceToNat, Int.reduceEq, Int.reduceNe, ↓reduceIte]
    refine call_of (hue) ?_
    set_option maxRecDepth 100000 in simp (maxSteps := 10000000) only [go_sem, Nat.reduceAdd, Nat.reduceSub, Nat.reduceMul, Nat.reduceLT, Nat.reduceLeDiff, Nat.reduceEqDiff, Nat.reduceMod, Nat.reduceDiv, Int.reduceNeg, Int.reduceLE, Int.reduceLT, Int.reduceToNat, Int.reduceEq, Int.reduceNe, ↓reduceIte]
    refine callM_of [] [16, 8, 9, 10, 11, 12] (how) ⟨rfl, rfl, rfl, by simp, by simp, by simp, by simp, rfl, rfl, rfl, onodup_of (l := [6, 12, 13, 14, 15, 16]) rfl (by decide)⟩ ?_
    set_option maxRecDepth 100000 in simp (maxSteps := 10000000) only [go_sem, Nat.reduceAdd, Nat.reduceSub, Nat.reduceMul, Nat.reduceLT, Nat.reduceLeDiff, Nat.reduceEqDiff, Nat.reduceMod, Nat.reduceDiv, Int.reduceNeg, Int.reduceLE, Int.reduceLT, Int.reduceToNat, Int.reduceEq, Int.reduceNe, ↓reduceIte]
    refine retL_of (le_disk (.same _ (.gone _ (.same _ (.same _ (.same _ .nil)))))) ?_
    set_option maxRecDepth 100000 in simp (maxSteps := 10000000) only [go_sem, Nat.reduceAdd, Nat.reduceSub, Nat.reduceMul, Nat.reduceLT, Nat.reduceLeDiff, Nat.reduceEqDiff, Nat.reduceMod, Nat.reduceDiv, Int.reduceNeg, Int.reduceLE, Int.reduceLT, Int.reduceToNat, Int.reduceEq, Int.reduceNe, ↓reduceIte]
  · have hE : AV.agg (encDisk (failD d (2 : Int).toNat)) = .agg [.int .i64 d.kind, .int .i64 d.size, .sl [[.int .i64 (d.at 0).state, .sl ((d.at 0).secs.map encStr)], [.int .i64 (d.at 1).state, .sl ((d.at 1).secs.map encStr)], [.int .i64 1, .sl []], [.int .i64 (d.at 3).state, .sl ((d.at 3).secs.map encStr)], [.int .i64 (d.at 4).state, .sl ((d.at 4).secs.map encStr)]]] := by
      conv => lhs; rw [hdd]
      rfl
    rw [hE]
    refine good_runL [(3000006, [], [103000000000000001000016, 103000000000000001001016, 103000000000000001002016, 103000000000000001003016, 103000000000000001004016, 101000000000000000000016])] mixed Try.func23 rfl Try.ntmps23 (rs := [.cell 4 24, .tmp 5]) rfl (by decide +kernel) (by kernel_rfl) rfl ?_
    rw [startE_eq 23 _ _ _ rfl rfl]
    set_option maxRecDepth 100000 in simp (maxSteps := 10000000) only [go_sem, Nat.reduceAdd, Nat.reduceSub, Nat.reduceMul, Nat.reduceLT, Nat.reduceLeDiff, Nat.reduceEqDiff, Nat.reduceMod, Nat.reduceDiv, Int.reduceNeg, Int.reduceLE, Int.reduceLT, Int.reduceToNat, Int.reduceEq, Int.reduceNe, ↓reduceIte]
    refine call_of (hue) ?_
    set_option maxRecDepth 100000 in simp (maxSteps := 10000000) only [go_sem, Nat.reduceAdd, Nat.reduceSub, Nat.reduceMul, Nat.reduceLT, Nat.reduceLeDiff, Nat.reduceEqDiff, Nat.reduceMod, Nat.reduceDiv, Int.reduceNeg, Int.reduceLE, Int.reduceLT, Int.reduceToNat, Int.reduceEq, Int.reduceNe, ↓reduceIte]
    refine callM_of [] [16, 8, 9, 10, 11, 12] (how) ⟨rfl, rfl, rfl, by simp, by simp, by simp, by simp, rfl, rfl, rfl, onodup_of (l := [6, 12, 13, 14, 15, 16]) rfl (by decide)⟩ ?_
    set_option maxRecDepth 100000 in simp (maxSteps := 10000000) only [go_sem, Nat.reduceAdd, Nat.reduceSub, Nat.reduceMul, Nat.reduceLT, Nat.reduceLeDiff, Nat.reduceEqDiff, Nat.reduceMod, Nat.reduceDiv, Int.reduceNeg, Int.reduceLE, Int.reduceLT, Int.reduceToNat, Int.reduceEq, Int.reduceNe, ↓reduceIte]
    refine retL_of (le_disk (.same _ (.same _ (.gone _ (.same _ (.same _ .nil)))))) ?_
    set_option maxRecDepth 100000 in simp (maxSteps := 10000000) only [go_sem, Nat.reduceAdd, Nat.reduceSub, Nat.reduceMul, Nat.reduceLT, Nat.reduceLeDiff, Nat.reduceEqDiff, Nat.reduceMod, Nat.reduceDiv, Int.reduceNeg, Int.reduceLE, Int.reduceLT, Int.reduceToNat, Int.reduceEq, Int.reduceNe, ↓reduceIte]
  · have hE : AV.agg (encDisk (failD d (3 : Int).toNat)) = .agg [.int .i64 d.kind, .int .i64 d.size, .sl [[.int .i64 (d.at 0).state, .sl ((d.at 0).secs.map encStr)], [.int .i64 (d.at 1).state, .sl ((d.at 1).secs.map encStr)], [.int .i64 (d.at 2).state, .sl ((d.at 2).secs.map encStr)], [.int .i64 1, .sl []], [.int .i64 (d.at 4).state, .sl ((d.at 4).secs.map encStr)]]] := by
      conv => lhs; rw [hdd]
      rfl
    rw [hE]
    refine good_runL [(3000006, [], [103000000000000001000016, 103000000000000001001016, 103000000000000001002016, 103000000000000001003016, 103000000000000001004016, 101000000000000000000016])] mixed Try.func23 rfl Try.ntmps23 (rs := [.cell 4 24, .tmp 5]) rfl (by decide +kernel) (by kernel_rfl) rfl ?_
    rw [startE_eq 23 _ _ _ rfl rfl]
    set_option maxRecDepth 100000 in simp (maxSteps := 10000000) only [go_sem, Nat.reduceAdd, Nat.reduceSub, Nat.reduceMul, Nat.reduceLT, Nat.reduceLeDiff, Nat.reduceEqDiff, Nat.reduceMod, Nat.reduceDiv, Int.reduceNeg, Int.reduceLE, Int.reduceLT, Int.reduceToNat, Int.reduceEq, Int.reduceNe, ↓reduceIte]
    refine call_of (hue) ?_
    set_option maxRecDepth 100000 in simp (maxSteps := 10000000) only [go_sem, Nat.reduceAdd, Nat.reduceSub, Nat.reduceMul, Nat.reduceLT, Nat.reduceLeDiff, Nat.reduceEqDiff, Nat.reduceMod, Nat.reduceDiv, Int.reduceNeg, Int.reduceLE, Int.reduceLT, Int.reduceToNat, Int.reduceEq, Int.reduceNe, ↓reduceIte]
    refine callM_of [] [16, 8, 9, 10, 11, 12] (how) ⟨rfl, rfl, rfl, by simp, by simp, by simp, by simp, rfl, rfl, rfl, onodup_of (l := [6, 12, 13, 14, 15, 16]) rfl (by decide)⟩ ?_
    set_option maxRecDepth 100000 in simp (maxSteps := 10000000) only [go_sem, Nat.reduceAdd, Nat.reduceSub, Nat.reduceMul, Nat.reduceLT, Nat.reduceLeDiff, Nat.reduceEqDiff, Nat.reduceMod, Nat.reduceDiv, Int.reduceNeg, Int.reduceLE, Int.reduceLT, Int.reduceToNat, Int.reduceEq, Int.reduceNe, ↓reduceIte]
    refine retL_of (le_disk (.same _ (.same _ (.same _ (.gone _ (.same _ .nil)))))) ?_
    set_option maxRecDepth 100000 in simp (maxSteps := 10000000) only [go_sem, Nat.reduceAdd, Nat.reduceSub, Nat.reduceMul, Nat.reduceLT, Nat.reduceLeDiff, Nat.reduceEqDiff, Nat.reduceMod, Nat.reduceDiv, Int.reduceNeg, Int.reduceLE, Int.reduceLT, Int.reduceToNat, Int.reduceEq, Int.reduceNe, ↓reduceIte]
  · have hE : AV.agg (encDisk (failD d (4 : Int).toNat)) = .agg [.int .i64 d.kind, .int .i64 d.size, .sl [[.int .i64 (d.at 0).state, .sl ((d.at 0).secs.map encStr)], [.int .i64 (d.at 1).state, .sl ((d.at 1).secs.map encStr)], [.int .i64 (d.at 2).state, .sl ((d.at 2).secs.map encStr)], [.int .i64 (d.at 3).state, .sl ((d.at 3).secs.map encStr)], [.int .i64 1, .sl []]]] := by
      conv => lhs; rw [hdd]
      rfl
    rw [hE]
    refine good_runL [(3000006, [], [103000000000000001000016, 103000000000000001001016, 103000000000000001002016, 103000000000000001003016, 103000000000000001004016, 101000000000000000000016])] mixed Try.func23 rfl Try.ntmps23 (rs := [.cell 4 24, .tmp 5]) rfl (by decide +kernel) (by kernel_rfl) rfl ?_
    rw [startE_eq 23 _ _ _ rfl rfl]
    set_option maxRecDepth 100000 in simp (maxSteps := 10000000) only [go_sem, Nat.reduceAdd, Nat.reduceSub, Nat.reduceMul, Nat.reduceLT, Nat.reduceLeDiff, Nat.reduceEqDiff, Nat.reduceMod, Nat.reduceDiv, Int.reduceNeg, Int.reduceLE, Int.reduceLT, Int.reduceToNat, Int.reduceEq, Int.reduceNe, ↓reduceIte]
    refine call_of (hue) ?_
    set_option maxRecDepth 100000 in simp (maxSteps := 10000000) only [go_sem, Nat.reduceAdd, Nat.reduceSub, Nat.reduceMul, Nat.reduceLT, Nat.reduceLeDiff, Nat.reduceEqDiff, Nat.reduceMod, Nat.reduceDiv, Int.reduceNeg, Int.reduceLE, Int.reduceLT, Int.reduceToNat, Int.reduceEq, Int.reduceNe, ↓reduceIte]
    refine callM_of [] [16, 8, 9, 10, 11, 12] (how) ⟨rfl, rfl, rfl, by simp, by simp, by simp, by simp, rfl, rfl, rfl, onodup_of (l := [6, 12, 13, 14, 15, 16]) rfl (by decide)⟩ ?_
    set_option maxRecDepth 100000 in simp (maxSteps := 10000000) only [go_sem, Nat.reduceAdd, Nat.reduceSub, Nat.reduceMul, Nat.reduceLT, Nat.reduceLeDiff, Nat.reduceEqDiff, Nat.reduceMod, Nat.reduceDiv, Int.reduceNeg, Int.reduceLE, Int.reduceLT, Int.reduceToNat, Int.reduceEq, Int.reduceNe, ↓reduceIte]
    refine retL_of (le_disk (.same _ (.same _ (.same _ (.same _ (.gone _ .nil)))))) ?_
    set_option maxRecDepth 100000 in simp (maxSteps := 10000000) only [go_sem, Nat.reduceAdd, Nat.reduceSub, Nat.reduceMul, Nat.reduceLT, Nat.reduceLeDiff, Nat.reduceEqDiff, Nat.reduceMod, Nat.reduceDiv, Int.reduceNeg, Int.reduceLE, Int.reduceLT, Int.reduceToNat, Int.reduceEq, Int.reduceNe, ↓reduceIte]
theorem Failed_good (d : Disk) (hf : FitD d) (u : Int) (hu : uE d u 1 false = 0) : Ans Try.prog 23 [.agg (encDisk d), .int .i64 u] (.tup [.agg (encDisk (failD d u.toNat)), .int .i64 0]) := by
  have h5 := (okd_of (uE_zero hu).1).n5
  have : d.n = 1 ∨ d.n = 2 ∨ d.n = 3 ∨ d.n = 4 ∨ d.n = 5 := by omega
  rcases this with q | q | q | q | q
  · exact Failed_1 d hf q u hu
  · exact Failed_2 d hf q u hu
  · exact Failed_3 d hf q u hu
  · exact Failed_4 d hf q u hu
  · exact Failed_5 d hf q u hu
theorem Failed_no (d : Disk) (hf : FitD d) (u : Int) (hu : ¬ uE d u 1 false = 0) : Ans Try.prog 23 [.agg (encDisk d), .int .i64 u] (.tup [zD, .int .i64 (uE d u 1 false)]) := by
  rw [zD]
  refine good_run [(3000006, [], [103000000000000001000016, 103000000000000001001016, 103000000000000001002016, 103000000000000001003016, 103000000000000001004016, 101000000000000000000016])] mixed Try.func23 rfl Try.ntmps23 (rs := [.cell 4 24, .tmp 5]) rfl (by decide +kernel) (by kernel_rfl) rfl ?_
  rw [startE_eq 23 _ _ _ rfl rfl]
  set_option maxRecDepth 100000 in simp (maxSteps := 10000000) only [go_sem, Nat.reduceAdd, Nat.reduceSub, Nat.reduceMul, Nat.reduceLT, Nat.reduceLeDiff, Nat.reduceEqDiff, Nat.reduceMod, Nat.reduceDiv, Int.reduceNeg, Int.reduceLE, Int.reduceLT, Int.reduceToNat, Int.reduceEq, Int.reduceNe, ↓reduceIte]
  refine call_of (unitErr_good d hf u 1 false) ?_
  set_option maxRecDepth 100000 in simp (maxSteps := 10000000) only [go_sem, Nat.reduceAdd, Nat.reduceSub, Nat.reduceMul, Nat.reduceLT, Nat.reduceLeDiff, Nat.reduceEqDiff, Nat.reduceMod, Nat.reduceDiv, Int.reduceNeg, Int.reduceLE, Int.reduceLT, Int.reduceToNat, Int.reduceEq, Int.reduceNe, ↓reduceIte,  hu]

set_option maxHeartbeats 8000000 in
theorem Replaced_1 (d : Disk) (hf : FitD d) (hn : d.n = 1) (u : Int) (hu : uE d u 1 true = 0) : Ans Try.prog 24 [.agg (encDisk d), .int .i64 u] (.tup [.agg (encDisk (freshD d u.toNat)), .int .i64 0]) := by
  obtain ⟨h0, ⟨hu0, hul⟩, hst⟩ := uE_zero hu
  have hO := okd_of h0
  have hz := hO.sz10
  have hue := unitErr_good d hf u 1 true
  rw [hu] at hue
  have hlens : ∀ j, j < d.n → (d.at j).secs.length ≤ 1000000 := fun j hj => by have := hf.m _ (nth_mem (l := d.units) hj); exact Nat.le_trans this (by decide)
  have how := owned_1 d.kind d.size (d.at 0) (hlens 0 (by omega))
  have hdd := units_1 hn
  rw [← hdd] at how
  have hrp := Repeat50_good zeroB d.sz hz.1 hz.2.1
  rw [hz.2.2] at hrp
  have hcs : u = 0 := by omega
  subst hcs
  have hE : AV.agg (encDisk (freshD d (0 : Int).toNat)) = .agg [.int .i64 d.kind, .int .i64 d.size, .sl [[.int .i64 2, .sl ((List.replicate d.sz zeroB).map encStr)]]] := by
    conv => lhs; rw [hdd]
    rfl
  rw [hE]
  refine good_run [(3000006, [], [103000000000000001000016, 103000000000000001001016, 103000000000000001002016, 103000000000000001003016, 103000000000000001004016, 101000000000000000000016])] mixed Try.func24 rfl Try.ntmps24 (rs := [.cell 4 24, .tmp 5]) rfl (by decide +kernel) (by kernel_rfl) rfl ?_
  rw [startE_eq 28 _ _ _ rfl rfl]
  set_option maxRecDepth 100000 in simp (maxSteps := 10000000) only [go_sem, Nat.reduceAdd, Nat.reduceSub, Nat.reduceMul, Nat.reduceLT, Nat.reduceLeDiff, Nat.reduceEqDiff, Nat.reduceMod, Nat.reduceDiv, Int.reduceNeg, Int.reduceLE, Int.reduceLT, Int.reduceToNat, Int.reduceEq, Int.reduceNe, ↓reduceIte]
  refine call_of (hue) ?_
  set_option maxRecDepth 100000 in simp (maxSteps := 10000000) only [go_sem, Nat.reduceAdd, Nat.reduceSub, Nat.reduceMul, Nat.reduceLT, Nat.reduceLeDiff, Nat.reduceEqDiff, Nat.reduceMod, Nat.reduceDiv, Int.reduceNeg, Int.reduceLE, Int.reduceLT, Int.reduceToNat, Int.reduceEq, Int.reduceNe, ↓reduceIte]
  refine callM_of [] [16, 8] (how) ⟨rfl, rfl, rfl, by simp, by simp, by simp, by simp, rfl, rfl, rfl, onodup_of (l := [6, 12]) rfl (by decide)⟩ ?_
  set_option maxRecDepth 100000 in simp (maxSteps := 10000000) only [go_sem, Nat.reduceAdd, Nat.reduceSub, Nat.reduceMul, Nat.reduceLT, Nat.reduceLeDiff, Nat.reduceEqDiff, Nat.reduceMod, Nat.reduceDiv, Int.reduceNeg, Int.reduceLE, Int.reduceLT, Int.reduceToNat, Int.reduceEq, Int.reduceNe, ↓reduceIte]
  refine callD_of (blank_good) ?_
  set_option maxRecDepth 100000 in simp (maxSteps := 10000000) only [go_sem, Nat.reduceAdd, Nat.reduceSub, Nat.reduceMul, Nat.reduceLT, Nat.reduceLeDiff, Nat.reduceEqDiff, Nat.reduceMod, Nat.reduceDiv, Int.reduceNeg, Int.reduceLE, Int.reduceLT, Int.reduceToNat, Int.reduceEq, Int.reduceNe, ↓reduceIte]
  refine callD_of (hrp) ?_
  set_option maxRecDepth 100000 in simp (maxSteps := 10000000) only [go_sem, Nat.reduceAdd, Nat.reduceSub, Nat.reduceMul, Nat.reduceLT, Nat.reduceLeDiff, Nat.reduceEqDiff, Nat.reduceMod, Nat.reduceDiv, Int.reduceNeg, Int.reduceLE, Int.reduceLT, Int.reduceToNat, Int.reduceEq, Int.reduceNe, ↓reduceIte]
  decide +kernel
set_option maxHeartbeats 8000000 in
theorem Replaced_2 (d : Disk) (hf : FitD d) (hn : d.n = 2) (u : Int) (hu : uE d u 1 true = 0) : Ans Try.prog 24 [.agg (encDisk d), .int .i64 u] (.tup [.agg (encDisk (freshD d u.toNat)), .int .i64 0]) := by
  obtain ⟨h0, ⟨hu0, hul⟩, hst⟩ := uE_zero hu
  have hO := okd_of h0
  have hz := hO.sz10
  have hue := unitErr_good d hf u 1 true
  rw [hu] at hue
  have hlens : ∀ j, j < d.n → (d.at j).secs.length ≤ 1000000 := fun j hj => by have := hf.m _ (nth_mem (l := d.units) hj); exact Nat.le_trans this (by decide)
  have how := owned_2 d.kind d.size (d.at 0) (d.at 1) (hlens 0 (by omega)) (hlens 1 (by omega))
  have hdd := units_2 hn
  rw [← hdd] at how
  have hrp := Repeat50_good zeroB d.sz hz.1 hz.2.1
  rw [hz.2.2] at hrp
  have hcs : u = 0 ∨ u = 1 := by omega
  rcases hcs with rfl | rfl
  · have hE : AV.agg (encDisk (freshD d (0 : Int).toNat)) = .agg [.int .i64 d.kind, .int .i64 d.size, .sl [[.int .i64 2, .sl ((List.replicate d.sz zeroB).map encStr)], [.int .i64 (d.at 1).state, .sl ((d.at 1).secs.map encStr)]]] := by
      conv => lhs; rw [hdd]
      rfl
    rw [hE]
    refine good_run [(3000006, [], [103000000000000001000016, 103000000000000001001016, 103000000000000001002016, 103000000000000001003016, 103000000000000001004016, 101000000000000000000016])] mixed Try.func24 rfl Try.ntmps24 (rs := [.cell 4 24, .tmp 5]) rfl (by decide +kernel) (by kernel_rfl) rfl ?_
    rw [startE_eq 28 _ _ _ rfl rfl]
    set_option maxRecDepth 100000 in simp (maxSteps := 10000000) only [go_sem, Nat.reduceAdd, Nat.reduceSub, Nat.reduceMul, Nat.reduceLT, Nat.reduceLeDiff, Nat.reduceEqDiff, Nat.reduceMod, Nat.reduceDiv, Int.reduceNeg, Int.reduceLE, Int.reduceLT, Int.reduceToNat, Int.reduceEq, Int.reduceNe, ↓reduceIte]
    refine call_of (hue) ?_
    set_option maxRecDepth 100000 in simp (maxSteps := 10000000) only [go_sem, Nat.reduceAdd, Nat.reduceSub, Nat.reduceMul, Nat.reduceLT, Nat.reduceLeDiff, Nat.reduceEqDiff, Nat.reduceMod, Nat.reduceDiv, Int.reduceNeg, Int.reduceLE, Int.reduceLT, Int.reduceToNat, Int.reduceEq, Int.reduceNe, ↓reduceIte]
    refine callM_of [] [16, 8, 9] (how) ⟨rfl, rfl, rfl, by simp, by simp, by simp, by simp, rfl, rfl, rfl, onodup_of (l := [6, 12, 13]) rfl (by decide)⟩ ?_
    set_option maxRecDepth 100000 in simp (maxSteps := 10000000) only [go_sem, Nat.reduceAdd, Nat.reduceSub, Nat.reduceMul, Nat.reduceLT, Nat.reduceLeDiff, Nat.reduceEqDiff, Nat.reduceMod, Nat.reduceDiv, Int.reduceNeg, Int.reduceLE, Int.reduceLT, Int.reduceToNat, Int.reduceEq, Int.reduceNe, ↓reduceIte]
    refine callD_of (blank_good) ?_
    set_option maxRecDepth 100000 in simp (maxSteps := 10000000) only [go_sem, Nat.reduceAdd, Nat.reduceSub, Nat.reduceMul, Nat.reduceLT, Nat.reduceLeDiff, Nat.reduceEqDiff, Nat.reduceMod, Nat.reduceDiv, Int.reduceNeg, Int.reduceLE, Int.reduceLT, Int.reduceToNat, Int.reduceEq, Int.reduceNe, ↓reduceIte]
    refine callD_of (hrp) ?_
    set_option maxRecDepth 100000 in simp (maxSteps := 10000000) only [go_sem, Nat.reduceAdd, Nat.reduceSub, Nat.reduceMul, Nat.reduceLT, Nat.reduceLeDiff, Nat.reduceEqDiff, Nat.reduceMod, Nat.reduceDiv, Int.reduceNeg, Int.reduceLE, Int.reduceLT, Int.reduceToNat, Int.reduceEq, Int.reduceNe, ↓reduceIte]
    decide +kernel
  · have hE : AV.agg (encDisk (freshD d (1 : Int).toNat)) = .agg [.int .i64 d.kind, .int .i64 d.size, .sl [[.int .i64 (d.at 0).state, .sl ((d.at 0).secs.map encStr)], [.int .i64 2, .sl ((List.replicate d.sz zeroB).map encStr)]]] := by
      conv => lhs; rw [hdd]
      rfl
    rw [hE]
    refine good_run [(3000006, [], [103000000000000001000016, 103000000000000001001016, 103000000000000001002016, 103000000000000001003016, 103000000000000001004016, 101000000000000000000016])] mixed Try.func24 rfl Try.ntmps24 (rs := [.cell 4 24, .tmp 5]) rfl (by decide +kernel) (by kernel_rfl) rfl ?_
    rw [startE_eq 28 _ _ _ rfl rfl]
    set_option maxRecDepth 100000 in simp (maxSteps := 10000000) only [go_sem, Nat.reduceAdd, Nat.reduceSub, Nat.reduceMul, Nat.reduceLT, Nat.reduceLeDiff, Nat.reduceEqDiff, Nat.reduceMod, Nat.reduceDiv, Int.reduceNeg, Int.reduceLE, Int.reduceLT, Int.reduceToNat, Int.reduceEq, Int.reduceNe, ↓reduceIte]
    refine call_of (hue) ?_
    set_option maxRecDepth 100000 in simp (maxSteps := 10000000) only [go_sem, Nat.reduceAdd, Nat.reduceSub, Nat.reduceMul, Nat.reduceLT, Nat.reduceLeDiff, Nat.reduceEqDiff, Nat.reduceMod, Nat.reduceDiv, Int.reduceNeg, Int.reduceLE, Int.reduceLT, Int.reduceToNat, Int.reduceEq, Int.reduceNe, ↓reduceIte]
    refine callM_of [] [16, 8, 9] (how) ⟨rfl, rfl, rfl, by simp, by simp, by simp, by simp, rfl, rfl, rfl, onodup_of (l := [6, 12, 13]) rfl (by decide)⟩ ?_
    set_option maxRecDepth 100000 in simp (maxSteps := 10000000) only [go_sem, Nat.reduceAdd, Nat.reduceSub, Nat.reduceMul, Nat.reduceLT, Nat.reduceLeDiff, Nat.reduceEqDiff, Nat.reduceMod, Nat.reduceDiv, Int.reduceNeg, Int.reduceLE, Int.reduceLT, Int.reduceToNat, Int.reduceEq, Int.reduceNe, ↓reduceIte]
    refine callD_of (blank_good) ?_
    set_option maxRecDepth 100000 in simp (maxSteps := 10000000) only [go_sem, Nat.reduceAdd, Nat.reduceSub, Nat.reduceMul, Nat.reduceLT, Nat.reduceLeDiff, Nat.reduceEqDiff, Nat.reduceMod, Nat.reduceDiv, Int.reduceNeg, Int.reduceLE, Int.reduceLT, Int.reduceToNat, Int.reduceEq, Int.reduceNe, ↓reduceIte]
    refine callD_of (hrp) ?_
    set_option maxRecDepth 100000 in simp (maxSteps := 10000000) only [go_sem, Nat.reduceAdd, Nat.reduceSub, Nat.reduceMul, Nat.reduceLT, Nat.reduceLeDiff, Nat.reduceEqDiff, Nat.reduceMod, Nat.reduceDiv, Int.reduceNeg, Int.reduceLE, Int.reduceLT, Int.reduceToNat, Int.reduceEq, Int.reduceNe, ↓reduceIte]
    decide +kernel
set_option maxHeartbeats 8000000 in
theorem Replaced_3 (d : Disk) (hf : FitD d) (hn : d.n = 3) (u : Int) (hu : uE d u 1 true = 0) : Ans Try.prog 24 [.agg (encDisk d), .int .i64 u] (.tup [.agg (encDisk (freshD d u.toNat)), .int .i64 0]) := by
  obtain ⟨h0, ⟨hu0, hul⟩, hst⟩ := uE_zero hu
  have hO := okd_of h0
  have hz := hO.sz10
  have hue := unitErr_good d hf u 1 true
  rw [hu] at hue
  have hlens : ∀ j, j < d.n → (d.at j).secs.length ≤ 1000000 := fun j hj => by have := hf.m _ (nth_mem (l := d.units) hj); exact Nat.le_trans this (by decide)
  have how := owned_3 d.kind d.size (d.at 0) (d.at 1) (d.at 2) (hlens 0 (by omega)) (hlens 1 (by omega)) (hlens 2 (by omega))
  have hdd := units_3 hn
  rw [← hdd] at how
  have hrp := Repeat50_good zeroB d.sz hz.1 hz.2.1
  rw [hz.2.2] at hrp
  have hcs : u = 0 ∨ u = 1 ∨ u = 2 := by omega
  rcases hcs with rfl | rfl | rfl
  · have hE : AV.agg (encDisk (freshD d (0 : Int).toNat)) = .agg [.int .i64 d.kind, .int .i64 d.size, .sl [[.int .i64 2, .sl ((List.replicate d.sz zeroB).map encStr)], [.int .i64 (d.at 1).state, .sl ((d.at 1).secs.map encStr)], [.int .i64 (d.at 2).state, .sl ((d.at 2).secs.map encStr)]]] := by
      conv => lhs; rw [hdd]
      rfl
    rw [hE]
    refine good_run [(3000006, [], [103000000000000001000016, 103000000000000001001016, 103000000000000001002016, 103000000000000001003016, 103000000000000001004016, 101000000000000000000016])] mixed Try.func24 rfl Try.ntmps24 (rs := [.cell 4 24, .tmp 5]) rfl (by decide +kernel) (by kernel_rfl) rfl ?_
    rw [startE_eq 28 _ _ _ rfl rfl]
    set_option maxRecDepth 100000 in simp (maxSteps := 10000000) only [go_sem, Nat.reduceAdd, Nat.reduceSub, Nat.reduceMul, Nat.reduceLT, Nat.reduceLeDiff, Nat.reduceEqDiff, Nat.reduceMod, Nat.reduceDiv, Int.reduceNeg, Int.reduceLE, Int.reduceLT, Int.reduceToNat, Int.reduceEq, Int.reduceNe, ↓reduceIte]
    refine call_of (hue) ?_
    set_option maxRecDepth 100000 in simp (maxSteps := 10000000) only [go_sem, Nat.reduceAdd, Nat.reduceSub, Nat.reduceMul, Nat.reduceLT, Nat.reduceLeDiff, Nat.reduceEqDiff, Nat.reduceMod, Nat.reduceDiv, Int.reduceNeg, Int.reduceLE, Int.reduceLT, Int.reduceToNat, Int.reduceEq, Int.reduceNe, ↓reduceIte]
    refine callM_of [] [16, 8, 9, 10] (how) ⟨rfl, rfl, rfl, by simp, by simp, by simp, by simp, rfl, rfl, rfl, onodup_of (l := [6, 12, 13, 14]) rfl (by decide)⟩ ?_
    set_option maxRecDepth 100000 in simp (maxSteps := 10000000) only [go_sem, Nat.reduceAdd, Nat.reduceSub, Nat.reduceMul, Nat.reduceLT, Nat.reduceLeDiff, Nat.reduceEqDiff, Nat.reduceMod, Nat.reduceDiv, Int.reduceNeg, Int.reduceLE, Int.reduceLT, Int.reduceToNat, Int.reduceEq, Int.reduceNe, ↓reduceIte]
    refine callD_of (blank_good) ?_
    set_option maxRecDepth 100000 in simp (maxSteps := 10000000) only [go_sem, Nat.reduceAdd, Nat.reduceSub, Nat.reduceMul, Nat.reduceLT, Nat.reduceLeDiff, Nat.reduceEqDiff, Nat.reduceMod, Nat.reduceDiv, Int.reduceNeg, Int.reduceLE, Int.reduceLT, Int.reduceToNat, Int.reduceEq, Int.reduceNe, ↓reduceIte]
    refine callD_of (hrp) ?_
    set_option maxRecDepth 100000 in simp (maxSteps := 10000000) only [go_sem, Nat.reduceAdd, Nat.reduceSub, Nat.reduceMul, Nat.reduceLT, Nat.reduceLeDiff, Nat.reduceEqDiff, Nat.reduceMod, Nat.reduceDiv, Int.reduceNeg, Int.reduceLE, Int.reduceLT, Int.reduceToNat, Int.reduceEq, Int.reduceNe, ↓reduceIte]
    decide +kernel
  · have hE : AV.agg (encDisk (freshD d (1 : Int).toNat)) = .agg [.int .i64 d.kind, .int .i64 d.size, .sl [[.int .i64 (d.at 0).state, .sl ((d.at 0).secs.map encStr)], [.int .i64 2, .sl ((List.replicate d.sz zeroB).map encStr)], [.int .i64 (d.at 2).state, .sl ((d.at 2).secs.map encStr)]]] := by
      conv => lhs; rw [hdd]
      rfl
    rw [hE]
    refine good_run [(3000006, [], [103000000000000001000016, 103000000000000001001016, 103000000000000001002016, 103000000000000001003016, 103000000000000001004016, 101000000000000000000016])] mixed Try.func24 rfl Try.ntmps24 (rs := [.cell 4 24, .tmp 5]) rfl (by decide +kernel) (by kernel_rfl) rfl ?_
    rw [startE_eq 28 _ _ _ rfl rfl]
    set_option maxRecDepth 100000 in simp (maxSteps := 10000000) only [go_sem, Nat.reduceAdd, Nat.reduceSub, Nat.reduceMul, Nat.reduceLT, Nat.reduceLeDiff, Nat.reduceEqDiff, Nat.reduceMod, Nat.reduceDiv, Int.reduceNeg, Int.reduceLE, Int.reduceLT, Int.reduceToNat, Int.reduceEq, Int.reduceNe, ↓reduceIte]
    refine call_of (hue) ?_
    set_option maxRecDepth 100000 in simp (maxSteps := 10000000) only [go_sem, Nat.reduceAdd, Nat.reduceSub, Nat.reduceMul, Nat.reduceLT, Nat.reduceLeDiff, Nat.reduceEqDiff, Nat.reduceMod, Nat.reduceDiv, Int.reduceNeg, Int.reduceLE, Int.reduceLT, Int.reduceToNat, Int.reduceEq, Int.reduceNe, ↓reduceIte]
    refine callM_of [] [16, 8, 9, 10] (how) ⟨rfl, rfl, rfl, by simp, by simp, by simp, by simp, rfl, rfl, rfl, onodup_of (l := [6, 12, 13, 14]) rfl (by decide)⟩ ?_
    set_option maxRecDepth 100000 in simp (maxSteps := 10000000) only [go_sem, Nat.reduceAdd, Nat.reduceSub, Nat.reduceMul, Nat.reduceLT, Nat.reduceLeDiff, Nat.reduceEqDiff, Nat.reduceMod, Nat.reduceDiv, Int.reduceNeg, Int.reduceLE, Int.reduceLT, Int.reduceToNat, Int.reduceEq, Int.reduceNe, ↓reduceIte]
    refine callD_of (blank_good) ?_
    set_option maxRecDepth 100000 in simp (maxSteps := 10000000) only [go_sem, Nat.reduceAdd, Nat.reduceSub, Nat.reduceMul, Nat.reduceLT, Nat.reduceLeDiff, Nat.reduceEqDiff, Nat.reduceMod, Nat.reduceDiv, Int.reduceNeg, Int.reduceLE, Int.reduceLT, Int.reduceToNat, Int.reduceEq, Int.reduceNe, ↓reduceIte]
    refine callD_of (hrp) ?_
    set_option maxRecDepth 100000 in simp (maxSteps := 10000000) only [go_sem, Nat.reduceAdd, Nat.reduceSub, Nat.reduceMul, Nat.reduceLT, Nat.reduceLeDiff, Nat.reduceEqDiff, Nat.reduceMod, Nat.reduceDiv, Int.reduceNeg, Int.reduceLE, Int.reduceLT, Int.reduceToNat, Int.reduceEq, Int.reduceNe, ↓reduceIte]
    decide +kernel
  · have hE : AV.agg (encDisk (freshD d (2 : Int).toNat)) = .agg [.int .i64 d.kind, .int .i64 d.size, .sl [[.int .i64 (d.at 0).state, .sl ((d.at 0).secs.map encStr)], [.int .i64 (d.at 1).state, .sl ((d.at 1).secs.map encStr)], [.int .i64 2, .sl ((List.replicate d.sz zeroB).map encStr)]]] := by
      conv => lhs; rw [hdd]
      rfl
    rw [hE]
    refine good_run [(3000006, [], [103000000000000001000016, 103000000000000001001016, 103000000000000001002016, 103000000000000001003016, 103000000000000001004016, 101000000000000000000016])] mixed Try.func24 rfl Try.ntmps24 (rs := [.cell 4 24, .tmp 5]) rfl (by decide +kernel) (by kernel_rfl) rfl ?_
    rw [startE_eq 28 _ _ _ rfl rfl]
    set_option maxRecDepth 100000 in simp (maxSteps := 10000000) only [go_sem, Nat.reduceAdd, Nat.reduceSub, Nat.reduceMul, Nat.reduceLT, Nat.reduceLeDiff, Nat.reduceEqDiff, Nat.reduceMod, Nat.reduceDiv, Int.reduceNeg, Int.reduceLE, Int.reduceLT, Int.reduceToNat, Int.reduceEq, Int.reduceNe, ↓reduceIte]
    refine call_of (hue) ?_
    set_option maxRecDepth 100000 in simp (maxSteps := 10000000) only [go_sem, Nat.reduceAdd, Nat.reduceSub, Nat.reduceMul, Nat.reduceLT, Nat.reduceLeDiff, Nat.reduceEqDiff, Nat.reduceMod, Nat.reduceDiv, Int.reduceNeg, Int.reduceLE, Int.reduceLT, Int.reduceToNat, Int.reduceEq, Int.reduceNe, ↓reduceIte]
    refine callM_of [] [16, 8, 9, 10] (how) ⟨rfl, rfl, rfl, by simp, by simp, by simp, by simp, rfl, rfl, rfl, onodup_of (l := [6, 12, 13, 14]) rfl (by decide)⟩ ?_
    set_option maxRecDepth 100000 in simp (maxSteps := 10000000) only [go_sem, Nat.reduceAdd, Nat.reduceSub, Nat.reduceMul, Nat.reduceLT, Nat.reduceLeDiff, Nat.reduceEqDiff, Nat.reduceMod, Nat.reduceDiv, Int.reduceNeg, Int.reduceLE, Int.reduceLT, Int.reduceToNat, Int.reduceEq, Int.reduceNe, ↓reduceIte]
    refine callD_of (blank_good) ?_
    set_option maxRecDepth 100000 in simp (maxSteps := 10000000) only [go_sem, Nat.reduceAdd, Nat.reduceSub, Nat.reduceMul, Nat.reduceLT, Nat.reduceLeDiff, Nat.reduceEqDiff, Nat.reduceMod, Nat.reduceDiv, Int.reduceNeg, Int.reduceLE, Int.reduceLT, Int.reduceToNat, Int.reduceEq, Int.reduceNe, ↓reduceIte]
    refine callD_of (hrp) ?_
    set_option maxRecDepth 100000 in simp (maxSteps := 10000000) only [go_sem, Nat.reduceAdd, Nat.reduceSub, Nat.reduceMul, Nat.reduceLT, Nat.reduceLeDiff, Nat.reduceEqDiff, Nat.reduceMod, Nat.reduceDiv, Int.reduceNeg, Int.reduceLE, Int.reduceLT, Int.reduceToNat, Int.reduceEq, Int.reduceNe, ↓reduceIte]
    decide +kernel
set_option maxHeartbeats 8000000 in
theorem Replaced_4 (d : Disk) (hf : FitD d) (hn : d.n = 4) (u : Int) (hu : uE d u 1 true = 0) : Ans Try.prog 24 [.agg (encDisk d), .int .i64 u] (.tup [.agg (encDisk (freshD d u.toNat)), .int .i64 0]) := by
  obtain ⟨h0, ⟨hu0, hul⟩, hst⟩ := uE_zero hu
  have hO := okd_of h0
  have hz := hO.sz10
  have hue := unitErr_good d hf u 1 true
  rw [hu] at hue
  have hlens : ∀ j, j < d.n → (d.at j).secs.length ≤ 1000000 := fun j hj => by have := hf.m _ (nth_mem (l := d.units) hj); exact Nat.le_trans this (by decide)
  have how := owned_4 d.kind d.size (d.at 0) (d.at 1) (d.at 2) (d.at 3) (hlens 0 (by omega)) (hlens 1 (by omega)) (hlens 2 (by omega)) (hlens 3 (by omega))
  have hdd := units_4 hn
  rw [← hdd] at how
  have hrp := Repeat50_good zeroB d.sz hz.1 hz.2.1
  rw [hz.2.2] at hrp
  have hcs : u = 0 ∨ u = 1 ∨ u = 2 ∨ u = 3 := by omega
  rcases hcs with rfl | rfl | rfl | rfl
  · have hE : AV.agg (encDisk (freshD d (0 : Int).toNat)) = .agg [.int .i64 d.kind, .int .i64 d.size, .sl [[.int .i64 2, .sl ((List.replicate d.sz zeroB).map encStr)], [.int .i64 (d.at 1).state, .sl ((d.at 1).secs.map encStr)], [.int .i64 (d.at 2).state, .sl ((d.at 2).secs.map encStr)], [.int .i64 (d.at 3).state, .sl ((d.at 3).secs.map encStr)]]] := by
      conv => lhs; rw [hdd]
      rfl
    rw [hE]
    refine good_run [(3000006, [], [103000000000000001000016, 103000000000000001001016, 103000000000000001002016, 103000000000000001003016, 103000000000000001004016, 101000000000000000000016])] mixed Try.func24 rfl Try.ntmps24 (rs := [.cell 4 24, .tmp 5]) rfl (by decide +kernel) (by kernel_rfl) rfl ?_
    rw [startE_eq 28 _ _ _ rfl rfl]
    set_option maxRecDepth 100000 in simp (maxSteps := 10000000) only [go_sem, Nat.reduceAdd, Nat.reduceSub, Nat.reduceMul, Nat.reduceLT, Nat.reduceLeDiff, Nat.reduceEqDiff, Nat.reduceMod, Nat.reduceDiv, Int.reduceNeg, Int.reduceLE, Int.reduceLT, Int.reduceToNat, Int.reduceEq, Int.reduceNe, ↓reduceIte]
    refine call_of (hue) ?_
    set_option maxRecDepth 100000 in simp (maxSteps := 10000000) only [go_sem, Nat.reduceAdd, Nat.reduceSub, Nat.reduceMul, Nat.reduceLT, Nat.reduceLeDiff, Nat.reduceEqDiff, Nat.reduceMod, Nat.reduceDiv, Int.reduceNeg, Int.reduceLE, Int.reduceLT, Int.reduceToNat, Int.reduceEq, Int.reduceNe, ↓reduceIte]
    refine callM_of [] [16, 8, 9, 10, 11] (how) ⟨rfl, rfl, rfl, by simp, by simp, by simp, by simp, rfl, rfl, rfl, onodup_of (l := [6, 12, 13, 14, 15]) rfl (by decide)⟩ ?_
    set_option maxRecDepth 100000 in simp (maxSteps := 10000000) only [go_sem, Nat.reduceAdd, Nat.reduceSub, Nat.reduceMul, Nat.reduceLT, Nat.reduceLeDiff, Nat.reduceEqDiff, Nat.reduceMod, Nat.reduceDiv, Int.reduceNeg, Int.reduceLE, Int.reduceLT, Int.reduceToNat, Int.reduceEq, Int.reduceNe, ↓reduceIte]
    refine callD_of (blank_good) ?_
    set_option maxRecDepth 100000 in simp (maxSteps := 10000000) only [go_sem, Nat.reduceAdd, Nat.reduceSub, Nat.reduceMul, Nat.reduceLT, Nat.reduceLeDiff, Nat.reduceEqDiff, Nat.reduceMod, Nat.reduceDiv, Int.reduceNeg, Int.reduceLE, Int.reduceLT, Int.reduceToNat, Int.reduceEq, Int.reduceNe, ↓reduceIte]
    refine callD_of (hrp) ?_
    set_option maxRecDepth 100000 in simp (maxSteps := 10000000) only [go_sem, Nat.reduceAdd, Nat.reduceSub, Nat.reduceMul, Nat.reduceLT, Nat.reduceLeDiff, Nat.reduceEqDiff, Nat.reduceMod, Nat.reduceDiv, Int.reduceNeg, Int.reduceLE, Int.reduceLT, Int.reduceToNat, Int.reduceEq, Int.reduceNe, ↓reduceIte]
    decide +kernel
  · have hE : AV.agg (encDisk (freshD d (1 : Int).toNat)) = .agg [.int .i64 d.kind, .int .i64 d.size, .sl [[.int .i64 (d.at 0).state, .sl ((d.at 0).secs.map encStr)], [.int .i64 2, .sl ((List.replicate d.sz zeroB).map encStr)], [.int .i64 (d.at 2).state, .sl ((d.at 2).secs.map encStr)], [.int .i64 (d.at 3).state, .sl ((d.at 3).secs.map encStr)]]] := by
      conv => lhs; rw [hdd]
      rfl
    rw [hE]
    refine good_run [(3000006, [], [103000000000000001000016, 103000000000000001001016, 103000000000000001002016, 103000000000000001003016, 103000000000000001004016, 101000000000000000000016])] mixed Try.func24 rfl Try.ntmps24 (rs := [.cell 4 24, .tmp 5]) rfl (by decide +kernel) (by kernel_rfl) rfl ?_
    rw [startE_eq 28 _ _ _ rfl rfl]
    set_option maxRecDepth 100000 in simp (maxSteps := 10000000) only [go_sem, Nat.reduceAdd, Nat.reduceSub, Nat.reduceMul, Nat.reduceLT, Nat.reduceLeDiff, Nat.reduceEqDiff, Nat.reduceMod, Nat.reduceDiv, Int.reduceNeg, Int.reduceLE, Int.reduceLT, Int.reduceToNat, Int.reduceEq, Int.reduceNe, ↓reduceIte]
    refine call_of (hue) ?_
    set_option maxRecDepth 100000 in simp (maxSteps := 10000000) only [go_sem, Nat.reduceAdd, Nat.reduceSub, Nat.reduceMul, Nat.reduceLT, Nat.reduceLeDiff, Nat.reduceEqDiff, Nat.reduceMod, Nat.reduceDiv, Int.reduceNeg, Int.reduceLE, Int.reduceLT, Int.reduceToNat, Int.reduceEq, Int.reduceNe, ↓reduceIte]
    refine callM_of [] [16, 8, 9, 10, 11] (how) ⟨rfl, rfl, rfl, by simp, by simp, by simp, by simp, rfl, rfl, rfl, onodup_of (l := [6, 12, 13, 14, 15]) rfl (by decide)⟩ ?_
    set_option maxRecDepth 100000 in simp (maxSteps := 10000000) only [go_sem, Nat.reduceAdd, Nat.reduceSub, Nat.reduceMul, Nat.reduceLT, Nat.reduceLeDiff, Nat.reduceEqDiff, Nat.reduceMod, Nat.reduceDiv, Int.reduceNeg, Int.reduceLE, Int.reduceLT, Int.reduceToNat, Int.reduceEq, Int.reduceNe, ↓reduceIte]
    refine callD_of (blank_good) ?_
    set_option maxRecDepth 100000 in simp (maxSteps := 10000000) only [go_sem, Nat.reduceAdd, Nat.reduceSub, Nat.reduceMul, Nat.reduceLT, Nat.reduceLeDiff, Nat.reduceEqDiff, Nat.reduceMod, Nat.reduceDiv, Int.reduceNeg, Int.reduceLE, Int.reduceLT, Int.reduceToNat, Int.reduceEq, Int.reduceNe, ↓reduceIte]
    refine callD_of (hrp) ?_
    set_option maxRecDepth 100000 in simp (maxSteps := 10000000) only [go_sem, Nat.reduceAdd, Nat.reduceSub, Nat.reduceMul, Nat.reduceLT, Nat.reduceLeDiff, Nat.reduceEqDiff, Nat.reduceMod, Nat.reduceDiv, Int.reduceNeg, Int.reduceLE, Int.reduceLT, Int.reduceToNat, Int.reduceEq, Int.reduceNe, ↓reduceIte]
    decide +kernel
  · have hE : AV.agg (encDisk (freshD d (2 : Int).toNat)) = .agg [.int .i64 d.kind, .int .i64 d.size, .sl [[.int .i64 (d.at 0).state, .sl ((d.at 0).secs.map encStr)], [.int .i64 (d.at 1).state, .sl ((d.at 1).secs.map encStr)], [.int .i64 2, .sl ((List.replicate d.sz zeroB).map encStr)], [.int .i64 (d.at 3).state, .sl ((d.at 3).secs.map encStr)]]] := by
      conv => lhs; rw [hdd]
      rfl
    rw [hE]
    refine good_run [(3000006, [], [103000000000000001000016, 103000000000000001001016, 103000000000000001002016, 103000000000000001003016, 103000000000000001004016, 101000000000000000000016])] mixed Try.func24 rfl Try.ntmps24 (rs := [.cell 4 24, .tmp 5]) rfl (by decide +kernel) (by kernel_rfl) rfl ?_
    rw [startE_eq 28 _ _ _ rfl rfl]
    set_option maxRecDepth 100000 in simp (maxSteps := 10000000) only [go_sem, Nat.reduceAdd, Nat.reduceSub, Nat.reduceMul, Nat.reduceLT, Nat.reduceLeDiff, Nat.reduceEqDiff, Nat.reduceMod, Nat.reduceDiv, Int.reduceNeg, Int.reduceLE, Int.reduceLT, Int.reduceToNat, Int.reduceEq, Int.reduceNe, ↓reduceIte]
    refine call_of (hue) ?_
    set_option maxRecDepth 100000 in simp (maxSteps := 10000000) only [go_sem, Nat.reduceAdd, Nat.reduceSub, Nat.reduceMul, Nat.reduceLT, Nat.reduceLeDiff, Nat.reduceEqDiff, Nat.reduceMod, Nat.reduceDiv, Int.reduceNeg, Int.reduceLE, Int.reduceLT, Int.reduceToNat, Int.reduceEq, Int.reduceNe, ↓reduceIte]
    refine callM_of [] [16, 8, 9, 10, 11] (how) ⟨rfl, rfl, rfl, by simp, by simp, by simp, by simp, rfl, rfl, rfl, onodup_of (l := [6, 12, 13, 14, 15]) rfl (by decide)⟩ ?_
    set_option maxRecDepth 100000 in simp (maxSteps := 10000000) only [go_sem, Nat.reduceAdd, Nat.reduceSub, Nat.reduceMul, Nat.reduceLT, Nat.reduceLeDiff, Nat.reduceEqDiff, Nat.reduceMod, Nat.reduceDiv, Int.reduceNeg, Int.reduceLE, Int.reduceLT, Int.reduceToNat, Int.reduceEq, Int.reduceNe, ↓reduceIte]
    refine callD_of (blank_good) ?_
    set_option maxRecDepth 100000 in simp (maxSteps := 10000000) only [go_sem, Nat.reduceAdd, Nat.reduceSub, Nat.reduceMul, Nat.reduceLT, Nat.reduceLeDiff, Nat.reduceEqDiff, Nat.reduceMod, Nat.reduceDiv, Int.reduceNeg, Int.reduceLE, Int.reduceLT, Int.reduceToNat, Int.reduceEq, Int.reduceNe, ↓reduceIte]
    refine callD_of (hrp) ?_
    set_option maxRecDepth 100000 in simp (maxSteps := 10000000) only [go_sem, Nat.reduceAdd, Nat.reduceSub, Nat.reduceMul, Nat.reduceLT, Nat.reduceLeDiff, Nat.reduceEqDiff, Nat.reduceMod, Nat.reduceDiv, Int.reduceNeg, Int.reduceLE, Int.reduceLT, Int.reduceToNat, Int.reduceEq, Int.reduceNe, ↓reduceIte]
    decide +kernel
  · have hE : AV.agg (encDisk (freshD d (3 : Int).toNat)) = .agg [.int .i64 d.kind, .int .i64 d.size, .sl [[.int .i64 (d.at 0).state, .sl ((d.at 0).secs.map encStr)], [.int .i64 (d.at 1).state, .sl ((d.at 1).secs.map encStr)], [.int .i64 (d.at 2).state, .sl ((d.at 2).secs.map encStr)], [.int .i64 2, .sl ((List.replicate d.sz zeroB).map encStr)]]] := by
      conv => lhs; rw [hdd]
      rfl
    rw [hE]
    refine good_run [(3000006, [], [103000000000000001000016, 103000000000000001001016, 103000000000000001002016, 103000000000000001003016, 103000000000000001004016, 101000000000000000000016])] mixed Try.func24 rfl Try.ntmps24 (rs := [.cell 4 24, .tmp 5]) rfl (by decide +kernel) (by kernel_rfl) rfl ?_
    rw [startE_eq 28 _ _ _ rfl rfl]
    set_option maxRecDepth 100000 in simp (maxSteps := 10000000) only [go_sem, Nat.reduceAdd, Nat.reduceSub, Nat.reduceMul, Nat.reduceLT, Nat.reduceLeDiff, Nat.reduceEqDiff, Nat.reduceMod, Nat.reduceDiv, Int.reduceNeg, Int.reduceLE, Int.reduceLT, Int.reduceToNat, Int.reduceEq, Int.reduceNe, ↓reduceIte]
    refine call_of (hue) ?_
    set_option maxRecDepth 100000 in simp (maxSteps := 10000000) only [go_sem, Nat.reduceAdd, Nat.reduceSub, Nat.reduceMul, Nat.reduceLT, Nat.reduceLeDiff, Nat.reduceEqDiff, Nat.reduceMod, Nat.reduceDiv, Int.reduceNeg, Int.reduceLE, Int.reduceLT, Int.reduceToNat, Int.reduceEq, Int.reduceNe, ↓reduceIte]
    refine callM_of [] [16, 8, 9, 10, 11] (how) ⟨rfl, rfl, rfl, by simp, by simp, by simp, by simp, rfl, rfl, rfl, onodup_of (l := [6, 12, 13, 14, 15]) rfl (by decide)⟩ ?_
    set_option maxRecDepth 100000 in simp (maxSteps := 10000000) only [go_sem, Nat.reduceAdd, Nat.reduceSub, Nat.reduceMul, Nat.reduceLT, Nat.reduceLeDiff, Nat.reduceEqDiff, Nat.reduceMod, Nat.reduceDiv, Int.reduceNeg, Int.reduceLE, Int.reduceLT, Int.reduceToNat, Int.reduceEq, Int.reduceNe, ↓reduceIte]
    refine callD_of (blank_good) ?_
    set_option maxRecDepth 100000 in simp (maxSteps := 10000000) only [go_sem, Nat.reduceAdd, Nat.reduceSub, Nat.reduceMul, Nat.reduceLT, Nat.reduceLeDiff, Nat.reduceEqDiff, Nat.reduceMod, Nat.reduceDiv, Int.reduceNeg, Int.reduceLE, Int.reduceLT, Int.reduceToNat, Int.reduceEq, Int.reduceNe, ↓reduceIte]
    refine callD_of (hrp) ?_
    set_option maxRecDepth 100000 in simp (maxSteps := 10000000) only [go_sem, Nat.reduceAdd, Nat.reduceSub, Nat.reduceMul, Nat.reduceLT, Nat.reduceLeDiff, Nat.reduceEqDiff, Nat.reduceMod, Nat.reduceDiv, Int.reduceNeg, Int.reduceLE, Int.reduceLT, Int.reduceToNat, Int.reduceEq, Int.reduceNe, ↓reduceIte]
    decide +kernel
set_option maxHeartbeats 8000000 in
theorem Replaced_5 (d : Disk) (hf : FitD d) (hn : d.n = 5) (u : Int) (hu : uE d u 1 true = 0) : Ans Try.prog 24 [.agg (encDisk d), .int .i64 u] (.tup [.agg (encDisk (freshD d u.toNat)), .int .i64 0]) := by
  obtain ⟨h0, ⟨hu0, hul⟩, hst⟩ := uE_zero hu
  have hO := okd_of h0
  have hz := hO.sz10
  have hue := unitErr_good d hf u 1 true
  rw [hu] at hue
  have hlens : ∀ j, j < d.n → (d.at j).secs.length ≤ 1000000 := fun j hj => by have := hf.m _ (nth_mem (l := d.units) hj); exact Nat.le_trans this (by decide)
  have how := owned_5 d.kind d.size (d.at 0) (d.at 1) (d.at 2) (d.at 3) (d.at 4) (hlens 0 (by omega)) (hlens 1 (by omega)) (hlens 2 (by omega)) (hlens 3 (by omega)) (hlens 4 (by omega))
  have hdd := units_5 hn
  rw [← hdd] at how
  have hrp := Repeat50_good zeroB d.sz hz.1 hz.2.1
  rw [hz.2.2] at hrp
  have hcs : u = 0 ∨ u = 1 ∨ u = 2 ∨ u = 3 ∨ u = 4 := by omega
  rcases hcs with rfl | rfl | rfl | rfl | rfl
  · have hE : AV.agg (encDisk (freshD d (0 : Int).toNat)) = .agg [.int .i64 d.kind, .int .i64 d.size, .sl [[.int .i64 2, .sl ((List.replicate d.sz zeroB).map encStr)], [.int .i64 (d.at 1).state, .sl ((d.at 1).secs.map encStr)], [.int .i64 (d.at 2).state, .sl ((d.at 2).secs.map encStr)], [.int .i64 (d.at 3).state, .sl ((d.at 3).secs.map encStr)], [.int .i64 (d.at 4).state, .sl ((d.at 4).secs.map encStr)]]] := by
      conv => lhs; rw [hdd]
      rfl
    rw [hE]
    refine good_run [(3000006, [], [103000000000000001000016, 103000000000000001001016, 103000000000000001002016, 103000000000000001003016, 103000000000000001004016, 101000000000000000000016])] mixed Try.func24 rfl Try.ntmps24 (rs := [.cell 4 24, .tmp 5]) rfl (by decide +kernel) (by kernel_rfl) rfl ?_
    rw [startE_eq 28 _ _ _ rfl rfl]
    set_option maxRecDepth 100000 in simp (maxSteps := 10000000) only [go_sem, Nat.reduceAdd, Nat.reduceSub, Nat.reduceMul, Nat.reduceLT, Nat.reduceLeDiff, Nat.reduceEqDiff, Nat.reduceMod, Nat.reduceDiv, Int.reduceNeg, Int.reduceLE, Int.reduceLT, Int.reduceToNat, Int.reduceEq, Int.reduceNe, ↓reduceIte]
    refine call_of (hue) ?_
    set_option maxRecDepth 100000 in simp (maxSteps := 10000000) only [go_sem, Nat.reduceAdd, Nat.reduceSub, Nat.reduceMul, Nat.reduceLT, Nat.reduceLeDiff, Nat.reduceEqDiff, Nat.reduceMod, Nat.reduceDiv, Int.reduceNeg, Int.reduceLE, Int.reduceLT, Int.reduceToNat, Int.reduceEq, Int.reduceNe, ↓reduceIte]
    refine callM_of [] [16, 8, 9, 10, 11, 12] (how) ⟨rfl, rfl, rfl, by simp, by simp, by simp, by simp, rfl, rfl, rfl, onodup_of (l := [6, 12, 13, 14, 15, 16]) rfl (by decide)⟩ ?_
    set_option maxRecDepth 100000 in simp (maxSteps := 10000000) only [go_sem, Nat.reduceAdd, Nat.reduceSub, Nat.reduceMul, Nat.reduceLT, Nat.reduceLeDiff, Nat.reduceEqDiff, Nat.reduceMod, Nat.reduceDiv, Int.reduceNeg, Int.reduceLE, Int.reduceLT, Int.reduceToNat, Int.reduceEq, Int.reduceNe, ↓reduceIte]
    refine callD_of (blank_good) ?_
    set_option maxRecDepth 100000 in simp (maxSteps := 10000000) only [go_sem, Nat.reduceAdd, Nat.reduceSub, Nat.reduceMul, Nat.reduceLT, Nat.reduceLeDiff, Nat.reduceEqDiff, Nat.reduceMod, Nat.reduceDiv, Int.reduceNeg, Int.reduceLE, Int.reduceLT, Int.reduceToNat, Int.reduceEq, Int.reduceNe, ↓reduceIte]
    refine callD_of (hrp) ?_
    set_option maxRecDepth 100000 in simp (maxSteps := 10000000) only [go_sem, Nat.reduceAdd, Nat.reduceSub, Nat.reduceMul, Nat.reduceLT, Nat.reduceLeDiff, Nat.reduceEqDiff, Nat.reduceMod, Nat.reduceDiv, Int.reduceNeg, Int.reduceLE, Int.reduceLT, Int.reduceToNat, Int.reduceEq, Int.reduceNe, ↓reduceIte]
    decide +kernel
  · have hE : AV.agg (encDisk (freshD d (1 : Int).toNat)) = .agg [.int .i64 d.kind, .int .i64 d.size, .sl [[.int .i64 (d.at 0).state, .sl ((d.at 0).secs.map encStr)], [.int .i64 2, .sl ((List.replicate d.sz zeroB).map encStr)], [.int .i64 (d.at 2).state, .sl ((d.at 2).secs.map encStr)], [.int .i64 (d.at 3).state, .sl ((d.at 3).secs.map encStr)], [.int .i64 (d.at 4).state, .sl ((d.at 4).secs.map encStr)]]] := by
      conv => lhs; rw [hdd]
      rfl
    rw [hE]
    refine good_run [(3000006, [], [103000000000000001000016, 103000000000000001001016, 103000000000000001002016, 103000000000000001003016, 103000000000000001004016, 101000000000000000000016])] mixed Try.func24 rfl Try.ntmps24 (rs := [.cell 4 24, .tmp 5]) rfl (by decide +kernel) (by kernel_rfl) rfl ?_
    rw [startE_eq 28 _ _ _ rfl rfl]
    set_option maxRecDepth 100000 in simp (maxSteps := 10000000) only [go_sem, Nat.reduceAdd, Nat.reduceSub, Nat.reduceMul, Nat.reduceLT, Nat.reduceLeDiff, Nat.reduceEqDiff, Nat.reduceMod, Nat.reduceDiv, Int.reduceNeg, Int.reduceLE, Int.reduceLT, Int.reduceToNat, Int.reduceEq, Int.reduceNe, ↓reduceIte]
    refine call_of (hue) ?_
    set_option maxRecDepth 100000 in simp (maxSteps := 10000000) only [go_sem, Nat.reduceAdd, Nat.reduceSub, Nat.reduceMul, Nat.reduceLT, Nat.reduceLeDiff, Nat.reduceEqDiff, Nat.reduceMod, Nat.reduceDiv, Int.reduceNeg, Int.reduceLE, Int.reduceLT, Int.reduceToNat, Int.reduceEq, Int.reduceNe, ↓reduceIte]
    refine callM_of [] [16, 8, 9, 10, 11, 12] (how) ⟨rfl, rfl, rfl, by simp, by simp, by simp, by simp, rfl, rfl, rfl, onodup_of (l := [6, 12, 13, 14, 15, 16]) rfl (by decide)⟩ ?_
    set_option maxRecDepth 100000 in simp (maxSteps := 10000000) only [go_sem, Nat.reduceAdd, Nat.reduceSub, Nat.reduceMul, Nat.reduceLT, Nat.reduceLeDiff, Nat.reduceEqDiff, Nat.reduceMod, Nat.reduceDiv, Int.reduceNeg, Int.reduceLE, Int.reduceLT, Int.reduceToNat, Int.reduceEq, Int.reduceNe, ↓reduceIte]
    refine callD_of (blank_good) ?_
    set_option maxRecDepth 100000 in simp (maxSteps := 10000000) only [go_sem, Nat.reduceAdd, Nat.reduceSub, Nat.reduceMul, Nat.reduceLT, Nat.reduceLeDiff, Nat.reduceEqDiff, Nat.reduceMod, Nat.reduceDiv, Int.reduceNeg, Int.reduceLE, Int.reduceLT, Int.reduceToNat, Int.reduceEq, Int.reduceNe, ↓reduceIte]
    refine callD_of (hrp) ?_
    set_option maxRecDepth 100000 in simp (maxSteps := 10000000) only [go_sem, Nat.reduceAdd, Nat.reduceSub, Nat.reduceMul, Nat.reduceLT, Nat.reduceLeDiff, Nat.reduceEqDiff, Nat.reduceMod, Nat.reduceDiv, Int.reduceNeg, Int.reduceLE, Int.reduceLT, Int.reduceToNat, Int.reduceEq, Int.reduceNe, ↓reduceIte]
    decide +kernel
  · have hE : AV.agg (encDisk (freshD d (2 : Int).toNat)) = .agg [.int .i64 d.kind, .int .i64 d.size, .sl [[.int .i64 (d.at 0).state, .sl ((d.at 0).secs.map encStr)], [.int .i64 (d.at 1).state, .sl ((d.at 1).secs.map encStr)], [.int .i64 2, .sl ((List.replicate d.sz zeroB).map encStr)], [.int .i64 (d.at 3).state, .sl ((d.at 3).secs.map encStr)], [.int .i64 (d.at 4).state, .sl ((d.at 4).secs.map encStr)]]] := by
      conv => lhs; rw [hdd]
      rfl
    rw [hE]
    refine good_run [(3000006, [], [103000000000000001000016, 103000000000000001001016, 103000000000000001002016, 103000000000000001003016, 103000000000000001004016, 101000000000000000000016])] mixed Try.func24 rfl Try.ntmps24 (rs := [.cell 4 24, .tmp 5]) rfl (by decide +kernel) (by kernel_rfl) rfl ?_
    rw [startE_eq 28 _ _ _ rfl rfl]
    set_option maxRecDepth 100000 in simp (maxSteps := 10000000) only [go_sem, Nat.reduceAdd, Nat.reduceSub, Nat.reduceMul, Nat.reduceLT, Nat.reduceLeDiff, Nat.reduceEqDiff, Nat.reduceMod, Nat.reduceDiv, Int.reduceNeg, Int.reduceLE, Int.reduceLT, Int.reduceToNat, Int.reduceEq, Int.reduceNe, ↓reduceIte]
    refine call_of (hue) ?_
    set_option maxRecDepth 100000 in simp (maxSteps := 10000000) only [go_sem, Nat.reduceAdd, Nat.reduceSub, Nat.reduceMul, Nat.reduceLT, Nat.reduceLeDiff, Nat.reduceEqDiff, Nat.reduceMod, Nat.reduceDiv, Int.reduceNeg, Int.reduceLE, Int.reduceLT, Int.reduceToNat, Int.reduceEq, Int.reduceNe, ↓reduceIte]
    refine callM_of [] [16, 8, 9, 10, 11, 12] (how) ⟨rfl, rfl, rfl, by simp, by simp, by simp, by simp, rfl, rfl, rfl, onodup_of (l := [6, 12, 13, 14, 15, 16]) rfl (by decide)⟩ ?_
    set_option maxRecDepth 100000 in simp (maxSteps := 10000000) only [go_sem, Nat.reduceAdd, Nat.reduceSub, Nat.reduceMul, Nat.reduceLT, Nat.reduceLeDiff, Nat.reduceEqDiff, Nat.reduceMod, Nat.reduceDiv, Int.reduceNeg, Int.reduceLE, Int.reduceLT, Int.reduceToNat, Int.reduceEq, Int.reduceNe, ↓reduceIte]
    refine callD_of (blank_good) ?_
    set_option maxRecDepth 100000 in simp (maxSteps := 10000000) only [go_sem, Nat.reduceAdd, Nat.reduceSub, Nat.reduceMul, Nat.reduceLT, Nat.reduceLeDiff, Nat.reduceEqDiff, Nat.reduceMod, Nat.reduceDiv, Int.reduceNeg, Int.reduceLE, Int.reduceLT, Int.reduceToNat, Int.reduceEq, Int.reduceNe, ↓reduceIte]
    refine callD_of (hrp) ?_
    set_option maxRecDepth 100000 in simp (maxSteps := 10000000) only [go_sem, Nat.reduceAdd, Nat.reduceSub, Nat.reduceMul, Nat.reduceLT, Nat.reduceLeDiff, Nat.reduceEqDiff, Nat.reduceMod, Nat.reduceDiv, Int.reduceNeg, Int.reduceLE, Int.reduceLT, Int.reduceToNat, Int.reduceEq, Int.reduceNe, ↓reduceIte]
    decide +kernel
  · have hE : AV.agg (encDisk (freshD d (3 : Int).toNat)) = .agg [.int .i64 d.kind, .int .i64 d.size, .sl [[.int .i64 (d.at 0).state, .sl ((d.at 0).secs.map encStr)], [.int .i64 (d.at 1).state, .sl ((d.at 1).secs.map encStr)], [.int .i64 (d.at 2).state, .sl ((d.at 2).secs.map encStr)], [.int .i64 2, .sl ((List.replicate d.sz zeroB).map encStr)], [.int .i64 (d.at 4).state, .sl ((d.at 4).secs.map encStr)]]] := by
      conv => lhs; rw [hdd]
      rfl
    rw [hE]
    refine good_run [(3000006, [], [103000000000000001000016, 103000000000000001001016, 103000000000000001002016, 103000000000000001003016, 103000000000000001004016, 101000000000000000000016])] mixed Try.func24 rfl Try.ntmps24 (rs := [.cell 4 24, .tmp 5]) rfl (by decide +kernel) (by kernel_rfl) rfl ?_
    rw [startE_eq 28 _ _ _ rfl rfl]
    set_option maxRecDepth 100000 in simp (maxSteps := 10000000) only [go_sem, Nat.reduceAdd, Nat.reduceSub, Nat.reduceMul, Nat.reduceLT, Nat.reduceLeDiff, Nat.reduceEqDiff, Nat.reduceMod, Nat.reduceDiv, Int.reduceNeg, Int.reduceLE, Int.reduceLT, Int.reduceToNat, Int.reduceEq, Int.reduceNe, ↓reduceIte]
    refine call_of (hue) ?_
    set_option maxRecDepth 100000 in simp (maxSteps := 10000000) only [go_sem, Nat.reduceAdd, Nat.reduceSub, Nat.reduceMul, Nat.reduceLT, Nat.reduceLeDiff, Nat.reduceEqDiff, Nat.reduceMod, Nat.reduceDiv, Int.reduceNeg, Int.reduceLE, Int.reduceLT, Int.reduceToNat, Int.reduceEq, Int.reduceNe, ↓reduceIte]
    refine callM_of [] [16, 8, 9, 10, 11, 12] (how) ⟨rfl, rfl, rfl, by simp, by simp, by simp, by simp, rfl, rfl, rfl, onodup_of (l := [6, 12, 13, 14, 15, 16]) rfl (by decide)⟩ ?_
    set_option maxRecDepth 100000 in simp (maxSteps := 10000000) only [go_sem, Nat.reduceAdd, Nat.reduceSub, Nat.reduceMul, Nat.reduceLT, Nat.reduceLeDiff, Nat.reduceEqDiff, Nat.reduceMod, Nat.reduceDiv, Int.reduceNeg, Int.reduceLE, Int.reduceLT, Int.reduceToNat, Int.reduceEq, Int.reduceNe, ↓reduceIte]
    refine callD_of (blank_good) ?_
    set_option maxRecDepth 100000 in simp (maxSteps := 10000000) only [go_sem, Nat.reduceAdd, Nat.reduceSub, Nat.reduceMul, Nat.reduceLT, Nat.reduceLeDiff, Nat.reduceEqDiff, Nat.reduceMod, Nat.reduceDiv, Int.reduceNeg, Int.reduceLE, Int.reduceLT, Int.reduceToNat, Int.reduceEq, Int.reduceNe, ↓reduceIte]
    refine callD_of (hrp) ?_
    set_option maxRecDepth 100000 in simp (maxSteps := 10000000) only [go_sem, Nat.reduceAdd, Nat.reduceSub, Nat.reduceMul, Nat.reduceLT, Nat.reduceLeDiff, Nat.reduceEqDiff, Nat.reduceMod, Nat.reduceDiv, Int.reduceNeg, Int.reduceLE, Int.reduceLT, Int.reduceToNat, Int.reduceEq, Int.reduceNe, ↓reduceIte]
    decide +kernel
  · have hE : AV.agg (encDisk (freshD d (4 : Int).toNat)) = .agg [.int .i64 d.kind, .int .i64 d.size, .sl [[.int .i64 (d.at 0).state, .sl ((d.at 0).secs.map encStr)], [.int .i64 (d.at 1).state, .sl ((d.at 1).secs.map encStr)], [.int .i64 (d.at 2).state, .sl ((d.at 2).secs.map encStr)], [.int .i64 (d.at 3).state, .sl ((d.at 3).secs.map encStr)], [.int .i64 2, .sl ((List.replicate d.sz zeroB).map encStr)]]] := by
      conv => lhs; rw [hdd]
      rfl
    rw [hE]
    refine good_run [(3000006, [], [103000000000000001000016, 103000000000000001001016, 103000000000000001002016, 103000000000000001003016, 103000000000000001004016, 101000000000000000000016])] mixed Try.func24 rfl Try.ntmps24 (rs := [.cell 4 24, .tmp 5]) rfl (by decide +kernel) (by kernel_rfl) rfl ?_
    rw [startE_eq 28 _ _ _ rfl rfl]
    set_option maxRecDepth 100000 in simp (maxSteps := 10000000) only [go_sem, Nat.reduceAdd, Nat.reduceSub, Nat.reduceMul, Nat.reduceLT, Nat.reduceLeDiff, Nat.reduceEqDiff, Nat.reduceMod, Nat.reduceDiv, Int.reduceNeg, Int.reduceLE, Int.reduceLT, Int.reduceToNat, Int.reduceEq, Int.reduceNe, ↓reduceIte]
    refine call_of (hue) ?_
    set_option maxRecDepth 100000 in simp (maxSteps := 10000000) only [go_sem, Nat.reduceAdd, Nat.reduceSub, Nat.reduceMul, Nat.reduceLT, Nat.reduceLeDiff, Nat.reduceEqDiff, Nat.reduceMod, Nat.reduceDiv, Int.reduceNeg, Int.reduceLE, Int.reduceLT, Int.reduceToNat, Int.reduceEq, Int.reduceNe, ↓reduceIte]
    refine callM_of [] [16, 8, 9, 10, 11, 12] (how) ⟨rfl, rfl, rfl, by simp, by simp, by simp, by simp, rfl, rfl, rfl, onodup_of (l := [6, 12, 13, 14, 15, 16]) rfl (by decide)⟩ ?_
    set_option maxRecDepth 100000 in simp (maxSteps := 10000000) only [go_sem, Nat.reduceAdd, Nat.reduceSub, Nat.reduceMul, Nat.reduceLT, Nat.reduceLeDiff, Nat.reduceEqDiff, Nat.reduceMod, Nat.reduceDiv, Int.reduceNeg, Int.reduceLE, Int.reduceLT, Int.reduceToNat, Int.reduceEq, Int.reduceNe, ↓reduceIte]
    refine callD_of (blank_good) ?_
    set_option maxRecDepth 100000 in simp (maxSteps := 10000000) only [go_sem, Nat.reduceAdd, Nat.reduceSub, Nat.reduceMul, Nat.reduceLT, Nat.reduceLeDiff, Nat.reduceEqDiff, Nat.reduceMod, Nat.reduceDiv, Int.reduceNeg, Int.reduceLE, Int.reduceLT, Int.reduceToNat, Int.reduceEq, Int.reduceNe, ↓reduceIte]
    refine callD_of (hrp) ?_
    set_option maxRecDepth 100000 in simp (maxSteps := 10000000) only [go_sem, Nat.reduceAdd, Nat.reduceSub, Nat.reduceMul, Nat.reduceLT, Nat.reduceLeDiff, Nat.reduceEqDiff, Nat.reduceMod, Nat.reduceDiv, Int.reduceNeg, Int.reduceLE, Int.reduceLT, Int.reduceToNat, Int.reduceEq, Int.reduceNe, ↓reduceIte]
    decide +kernel
theorem Replaced_good (d : Disk) (hf : FitD d) (u : Int) (hu : uE d u 1 true = 0) : Ans Try.prog 24 [.agg (encDisk d), .int .i64 u] (.tup [.agg (encDisk (freshD d u.toNat)), .int .i64 0]) := by
  have h5 := (okd_of (uE_zero hu).1).n5
  have : d.n = 1 ∨ d.n = 2 ∨ d.n = 3 ∨ d.n = 4 ∨ d.n = 5 := by omega
  rcases this with q | q | q | q | q
  · exact Replaced_1 d hf q u hu
  · exact Replaced_2 d hf q u hu
  · exact Replaced_3 d hf q u hu
  · exact Replaced_4 d hf q u hu
  · exact Replaced_5 d hf q u hu
theorem Replaced_no (d : Disk) (hf : FitD d) (u : Int) (hu : ¬ uE d u 1 true = 0) : Ans Try.prog 24 [.agg (encDisk d), .int .i64 u] (.tup [zD, .int .i64 (uE d u 1 true)]) := by
  rw [zD]
  refine good_run [(3000006, [], [103000000000000001000016, 103000000000000001001016, 103000000000000001002016, 103000000000000001003016, 103000000000000001004016, 101000000000000000000016])] mixed Try.func24 rfl Try.ntmps24 (rs := [.cell 4 24, .tmp 5]) rfl (by decide +kernel) (by kernel_rfl) rfl ?_
  rw [startE_eq 28 _ _ _ rfl rfl]
  set_option maxRecDepth 100000 in simp (maxSteps := 10000000) only [go_sem, Nat.reduceAdd, Nat.reduceSub, Nat.reduceMul, Nat.reduceLT, Nat.reduceLeDiff, Nat.reduceEqDiff, Nat.reduceMod, Nat.reduceDiv, Int.reduceNeg, Int.reduceLE, Int.reduceLT, Int.reduceToNat, Int.reduceEq, Int.reduceNe, ↓reduceIte]
  refine call_of (unitErr_good d hf u 1 true) ?_
  set_option maxRecDepth 100000 in simp (maxSteps := 10000000) only [go_sem, Nat.reduceAdd, Nat.reduceSub, Nat.reduceMul, Nat.reduceLT, Nat.reduceLeDiff, Nat.reduceEqDiff, Nat.reduceMod, Nat.reduceDiv, Int.reduceNeg, Int.reduceLE, Int.reduceLT, Int.reduceToNat, Int.reduceEq, Int.reduceNe, ↓reduceIte,  hu]

end Go.Proofs.Ytdfdagfgkijpcaa.C06
