/- Chapter 6: sectors read; redundant disks. -/
import Derived.Test.YtdfdagfgkijpcaaA6
namespace Go.Proofs.Ytdfdagfgkijpcaa.C06
open Go Go.Proofs Go.Proofs.Ytdfdagfgkijpcaa.Ab
set_option linter.unusedSimpArgs false
set_option linter.unusedVariables false
attribute [local congr] ite_ctx

def parI (d : Disk) (s : Nat) : Int := if d.kind = 2 then (d.pP s : Nat) else -1
theorem place_good (d : Disk) (h : Okd d) {s : Nat} (hs : s < d.count) : Ans Try.prog 54 [.agg (encDisk d), .int .i64 (s : Int)] (.tup [.int .i64 (d.pU s : Nat), .int .i64 (d.pA s : Nat), .int .i64 (parI d s)]) := by
  have h5 := h.n5
  have hc := h.cnt.2
  by_cases hk : d.kind = 2
  · have hn := h.n2 hk
    rw [parI, if_pos hk]
    exact place_par d s hk (by unfold Disk.n at hn; omega) (by unfold Disk.n at hn; omega) (by omega)
  · have hp := place_plain d (s : Int) hk
    rw [parI, if_neg hk, show d.pU s = 0 by unfold Disk.pU; rw [if_neg hk], show d.pA s = s by unfold Disk.pA; rw [if_neg hk]]
    exact hp

def readT (d : Disk) (s : Nat) : AV := match d.read s with
  | some b => .tup [.str b, .bool true]
  | none => .tup [.str ⟨#[]⟩, .bool false]
theorem oth_readT (d : Disk) (s : Nat) (h0 : ¬ (d.at (d.pU s)).state = 0) (hk : d.kind = 2) : readT d s = othT d (d.pU s) (d.pA s) := by
  unfold readT othT Disk.read
  rw [if_neg h0, if_neg (by omega), if_pos hk]
  cases d.others (d.pU s) (d.pA s) <;> rfl
set_option maxHeartbeats 2000000 in
theorem read_good (d : Disk) (h : Okd d) {s : Nat} (hs : s < d.count) : Ans Try.prog 48 [.agg (encDisk d), .int .i64 (s : Int)] (readT d s) := by
  have hU := h.pU_lt s
  have hA := h.pA_lt hs
  have hU' : d.pU s < d.units.length := hU
  refine Classical.byCases (fun h0 : (nth d.units (d.pU s)).state = 0 => ?_) fun h0 => ?_
  · have hr : readT d s = .tup [.str (d.sec (d.pU s) (d.pA s)), .bool true] := by unfold readT Disk.read; rw [if_pos (show (d.at (d.pU s)).state = 0 from h0)]
    obtain ⟨a1, a2⟩ := h.active hU h0 hA
    rw [hr]
    refine good_run [] mixed Try.func48 rfl Try.ntmps48 (rs := [.tmp 4, .tmp 5]) rfl (by decide +kernel) (by kernel_rfl) rfl ?_
    rw [startE_eq 63 _ _ _ rfl rfl]
    set_option maxRecDepth 100000 in simp (maxSteps := 10000000) only [go_sem, Nat.reduceAdd, Nat.reduceSub, Nat.reduceMul, Nat.reduceLT, Nat.reduceLeDiff, Nat.reduceEqDiff, Nat.reduceMod, Nat.reduceDiv, Int.reduceNeg, Int.reduceLE, Int.reduceLT, Int.reduceToNat, Int.reduceEq, Int.reduceNe, ↓reduceIte]
    refine call_of (place_good d h hs) ?_
    set_option maxRecDepth 100000 in simp (maxSteps := 10000000) only [go_sem, Nat.reduceAdd, Nat.reduceSub, Nat.reduceMul, Nat.reduceLT, Nat.reduceLeDiff, Nat.reduceEqDiff, Nat.reduceMod, Nat.reduceDiv, Int.reduceNeg, Int.reduceLE, Int.reduceLT, Int.reduceToNat, Int.reduceEq, Int.reduceNe, ↓reduceIte,  hU', h0, decide_true]
    set_option maxRecDepth 100000 in simp (maxSteps := 10000000) only [go_sem, Nat.reduceAdd, Nat.reduceSub, Nat.reduceMul, Nat.reduceLT, Nat.reduceLeDiff, Nat.reduceEqDiff, Nat.reduceMod, Nat.reduceDiv, Int.reduceNeg, Int.reduceLE, Int.reduceLT, Int.reduceToNat, Int.reduceEq, Int.reduceNe, ↓reduceIte,  hU', show d.pA s < (nth d.units (d.pU s)).secs.length from a1, sec_nth]
  have h0' : ¬ (d.at (d.pU s)).state = 0 := h0
  rcases h.kind with hk | hk | hk
  · have hr : readT d s = .tup [.str ⟨#[]⟩, .bool false] := by unfold readT Disk.read; rw [if_neg h0', if_neg (by omega), if_neg (by omega)]
    rw [hr]
    refine good_run [] mixed Try.func48 rfl Try.ntmps48 (rs := [.tmp 4, .tmp 5]) rfl (by decide +kernel) (by kernel_rfl) rfl ?_
    rw [startE_eq 63 _ _ _ rfl rfl]
    set_option maxRecDepth 100000 in simp (maxSteps := 10000000) only [go_sem, Nat.reduceAdd, Nat.reduceSub, Nat.reduceMul, Nat.reduceLT, Nat.reduceLeDiff, Nat.reduceEqDiff, Nat.reduceMod, Nat.reduceDiv, Int.reduceNeg, Int.reduceLE, Int.reduceLT, Int.reduceToNat, Int.reduceEq, Int.reduceNe, ↓reduceIte]
    refine call_of (place_good d h hs) ?_
    set_option maxRecDepth 100000 in simp (maxSteps := 10000000) only [go_sem, Nat.reduceAdd, Nat.reduceSub, Nat.reduceMul, Nat.reduceLT, Nat.reduceLeDiff, Nat.reduceEqDiff, Nat.reduceMod, Nat.reduceDiv, Int.reduceNeg, Int.reduceLE, Int.reduceLT, Int.reduceToNat, Int.reduceEq, Int.reduceNe, ↓reduceIte,  hU', h0, decide_false, hk]
  · have hn := h.n1 hk
    have h1l : 1 < d.units.length := by unfold Disk.n at hn; omega
    have h1i : (1 : Int) < (d.units.length : Int) := by omega
    have n1 : nth d.units 1 = d.at 1 := rfl
    refine Classical.byCases (fun h1 : (nth d.units 1).state = 0 => ?_) fun h1 => ?_
    · have hr : readT d s = .tup [.str (d.sec 1 (d.pA s)), .bool true] := by unfold readT Disk.read; rw [if_neg h0', if_pos ⟨hk, h1⟩]
      obtain ⟨a1, a2⟩ := h.active (j := 1) (by omega) h1 hA
      rw [hr]
      refine good_run [] mixed Try.func48 rfl Try.ntmps48 (rs := [.tmp 4, .tmp 5]) rfl (by decide +kernel) (by kernel_rfl) rfl ?_
      rw [startE_eq 63 _ _ _ rfl rfl]
      set_option maxRecDepth 100000 in simp (maxSteps := 10000000) only [go_sem, Nat.reduceAdd, Nat.reduceSub, Nat.reduceMul, Nat.reduceLT, Nat.reduceLeDiff, Nat.reduceEqDiff, Nat.reduceMod, Nat.reduceDiv, Int.reduceNeg, Int.reduceLE, Int.reduceLT, Int.reduceToNat, Int.reduceEq, Int.reduceNe, ↓reduceIte]
      refine call_of (place_good d h hs) ?_
      set_option maxRecDepth 100000 in simp (maxSteps := 10000000) only [go_sem, Nat.reduceAdd, Nat.reduceSub, Nat.reduceMul, Nat.reduceLT, Nat.reduceLeDiff, Nat.reduceEqDiff, Nat.reduceMod, Nat.reduceDiv, Int.reduceNeg, Int.reduceLE, Int.reduceLT, Int.reduceToNat, Int.reduceEq, Int.reduceNe, ↓reduceIte,  hU', h0, decide_false, hk, h1l, h1i, h1, decide_true]
      set_option maxRecDepth 100000 in simp (maxSteps := 10000000) only [go_sem, Nat.reduceAdd, Nat.reduceSub, Nat.reduceMul, Nat.reduceLT, Nat.reduceLeDiff, Nat.reduceEqDiff, Nat.reduceMod, Nat.reduceDiv, Int.reduceNeg, Int.reduceLE, Int.reduceLT, Int.reduceToNat, Int.reduceEq, Int.reduceNe, ↓reduceIte,  h1l, h1i, show d.pA s < (nth d.units 1).secs.length from a1, sec_nth]
    · have hr : readT d s = .tup [.str ⟨#[]⟩, .bool false] := by unfold readT Disk.read; rw [if_neg h0', if_neg (fun q => h1 q.2), if_neg (by omega)]
      rw [hr]
      refine good_run [] mixed Try.func48 rfl Try.ntmps48 (rs := [.tmp 4, .tmp 5]) rfl (by decide +kernel) (by kernel_rfl) rfl ?_
      rw [startE_eq 63 _ _ _ rfl rfl]
      set_option maxRecDepth 100000 in simp (maxSteps := 10000000) only [go_sem, Nat.reduceAdd, Nat.reduceSub, Nat.reduceMul, Nat.reduceLT, Nat.reduceLeDiff, Nat.reduceEqDiff, Nat.reduceMod, Nat.reduceDiv, Int.reduceNeg, Int.reduceLE, Int.reduceLT, Int.reduceToNat, Int.reduceEq, Int.reduceNe, ↓reduceIte]
      refine call_of (place_good d h hs) ?_
      set_option maxRecDepth 100000 in simp (maxSteps := 10000000) only [go_sem, Nat.reduceAdd, Nat.reduceSub, Nat.reduceMul, Nat.reduceLT, Nat.reduceLeDiff, Nat.reduceEqDiff, Nat.reduceMod, Nat.reduceDiv, Int.reduceNeg, Int.reduceLE, Int.reduceLT, Int.reduceToNat, Int.reduceEq, Int.reduceNe, ↓reduceIte,  hU', h0, decide_false, hk, h1l, h1i, h1]
  · have ho := others_good d h (d.pU s) (d.pA s) hA
    rw [oth_readT d s h0' hk]
    have hk1 : (d.kind = 1) = False := eq_false (by omega)
    have hk2 : (d.kind = 2) = True := eq_true hk
    revert ho
    unfold othT
    cases hx : d.others (d.pU s) (d.pA s) with
    | none =>
      intro ho
      refine good_run [] mixed Try.func48 rfl Try.ntmps48 (rs := [.tmp 4, .tmp 5]) rfl (by decide +kernel) (by kernel_rfl) rfl ?_
      rw [startE_eq 63 _ _ _ rfl rfl]
      set_option maxRecDepth 100000 in simp (maxSteps := 10000000) only [go_sem, Nat.reduceAdd, Nat.reduceSub, Nat.reduceMul, Nat.reduceLT, Nat.reduceLeDiff, Nat.reduceEqDiff, Nat.reduceMod, Nat.reduceDiv, Int.reduceNeg, Int.reduceLE, Int.reduceLT, Int.reduceToNat, Int.reduceEq, Int.reduceNe, ↓reduceIte]
      refine call_of (place_good d h hs) ?_
      set_option maxRecDepth 100000 in simp (maxSteps := 10000000) only [go_sem, Nat.reduceAdd, Nat.reduceSub, Nat.reduceMul, Nat.reduceLT, Nat.reduceLeDiff, Nat.reduceEqDiff, Nat.reduceMod, Nat.reduceDiv, Int.reduceNeg, Int.reduceLE, Int.reduceLT, Int.reduceToNat, Int.reduceEq, Int.reduceNe, ↓reduceIte,  hU', h0, decide_false, decide_true, hk1, hk2]
      refine call_of (ho) ?_
      set_option maxRecDepth 100000 in simp (maxSteps := 10000000) only [go_sem, Nat.reduceAdd, Nat.reduceSub, Nat.reduceMul, Nat.reduceLT, Nat.reduceLeDiff, Nat.reduceEqDiff, Nat.reduceMod, Nat.reduceDiv, Int.reduceNeg, Int.reduceLE, Int.reduceLT, Int.reduceToNat, Int.reduceEq, Int.reduceNe, ↓reduceIte]
    | some b =>
      intro ho
      refine good_run [] mixed Try.func48 rfl Try.ntmps48 (rs := [.tmp 4, .tmp 5]) rfl (by decide +kernel) (by kernel_rfl) rfl ?_
      rw [startE_eq 63 _ _ _ rfl rfl]
      set_option maxRecDepth 100000 in simp (maxSteps := 10000000) only [go_sem, Nat.reduceAdd, Nat.reduceSub, Nat.reduceMul, Nat.reduceLT, Nat.reduceLeDiff, Nat.reduceEqDiff, Nat.reduceMod, Nat.reduceDiv, Int.reduceNeg, Int.reduceLE, Int.reduceLT, Int.reduceToNat, Int.reduceEq, Int.reduceNe, ↓reduceIte]
      refine call_of (place_good d h hs) ?_
      set_option maxRecDepth 100000 in simp (maxSteps := 10000000) only [go_sem, Nat.reduceAdd, Nat.reduceSub, Nat.reduceMul, Nat.reduceLT, Nat.reduceLeDiff, Nat.reduceEqDiff, Nat.reduceMod, Nat.reduceDiv, Int.reduceNeg, Int.reduceLE, Int.reduceLT, Int.reduceToNat, Int.reduceEq, Int.reduceNe, ↓reduceIte,  hU', h0, decide_false, decide_true, hk1, hk2]
      refine call_of (ho) ?_
      set_option maxRecDepth 100000 in simp (maxSteps := 10000000) only [go_sem, Nat.reduceAdd, Nat.reduceSub, Nat.reduceMul, Nat.reduceLT, Nat.reduceLeDiff, Nat.reduceEqDiff, Nat.reduceMod, Nat.reduceDiv, Int.reduceNeg, Int.reduceLE, Int.reduceLT, Int.reduceToNat, Int.reduceEq, Int.reduceNe, ↓reduceIte]

/-! ### All sectors -/
def readsGo (d : Disk) : List Nat → Option (List ByteArray)
  | [] => some []
  | s :: l => match d.read s, readsGo d l with
    | some b, some bs => some (b :: bs)
    | _, _ => none
def Disk.reads (d : Disk) : Option (List ByteArray) := readsGo d (List.range d.count)
def got (d : Disk) (i : Nat) : List ByteArray := (List.range i).map fun s => (d.read s).getD default
theorem got_succ (d : Disk) (i : Nat) (b : ByteArray) (h : d.read i = some b) : got d (i + 1) = got d i ++ [b] := by
  unfold got; rw [List.range_succ, List.map_append]; simp [h]
theorem readsGo_all {d : Disk} : ∀ {l : List Nat}, (∀ s ∈ l, (d.read s).isSome = true) → readsGo d l = some (l.map fun s => (d.read s).getD default)
  | [], _ => rfl
  | s :: l, h => by
    have h1 := h s (List.mem_cons_self ..)
    cases hr : d.read s with
    | none => rw [hr] at h1; cases h1
    | some b => simp only [readsGo, hr, readsGo_all fun x hx => h x (List.mem_cons_of_mem _ hx), List.map_cons, Option.getD_some]
theorem readsGo_none {d : Disk} : ∀ {l : List Nat} {s : Nat}, s ∈ l → d.read s = none → readsGo d l = none
  | t :: l, s, hs, h => by
    rcases List.mem_cons.1 hs with rfl | hs
    · simp only [readsGo, h]
    · simp only [readsGo, readsGo_none hs h]; cases d.read t <;> rfl
theorem reads_all {d : Disk} (h : ∀ s, s < d.count → (d.read s).isSome = true) : d.reads = some (got d d.count) := readsGo_all fun s hs => h s (List.mem_range.1 hs)
theorem reads_none {d : Disk} {s : Nat} (hs : s < d.count) (h : d.read s = none) : d.reads = none := readsGo_none (List.mem_range.2 hs) h
theorem got_len (d : Disk) (i : Nat) : (got d i).length = i := by simp [got]
/-- What SectorsOf answers. -/
def secsT (d : Disk) : AV := if ¬ (dE d).2 = 0 then .tup [.nils, .int .i64 (dE d).2] else match d.reads with
  | some l => .tup [.sl (l.map encStr), .int .i64 0]
  | none => .tup [.nils, .int .i64 31]
set_option maxHeartbeats 2000000 in
theorem SectorsOf_good (d : Disk) (hf : FitD d) : Ans Try.prog 22 [.agg (encDisk d)] (secsT d) := by
  refine Classical.byCases (fun h0 : (dE d).2 = 0 => ?_) fun h0 => ?_
  case refine_2 =>
    rw [secsT, if_pos h0]
    refine good_run [(6, [2, 3, 6, 7, 8, 17, 18, 19, 20, 21, 22, 23, 24, 25, 26, 27, 28, 29, 30, 31], [29, 1501009030])] mixed Try.func22 rfl Try.ntmps22 (rs := [.tmp 2, .tmp 3]) rfl (by decide +kernel) (by kernel_rfl) rfl ?_
    rw [startE_eq 33 _ _ _ rfl rfl]
    set_option maxRecDepth 100000 in simp (maxSteps := 10000000) only [go_sem, Nat.reduceAdd, Nat.reduceSub, Nat.reduceMul, Nat.reduceLT, Nat.reduceLeDiff, Nat.reduceEqDiff, Nat.reduceMod, Nat.reduceDiv, Int.reduceNeg, Int.reduceLE, Int.reduceLT, Int.reduceToNat, Int.reduceEq, Int.reduceNe, ↓reduceIte]
    refine call_of (diskErr_good d hf) ?_
    set_option maxRecDepth 100000 in simp (maxSteps := 10000000) only [go_sem, Nat.reduceAdd, Nat.reduceSub, Nat.reduceMul, Nat.reduceLT, Nat.reduceLeDiff, Nat.reduceEqDiff, Nat.reduceMod, Nat.reduceDiv, Int.reduceNeg, Int.reduceLE, Int.reduceLT, Int.reduceToNat, Int.reduceEq, Int.reduceNe, ↓reduceIte,  h0]
  have h := okd_of h0
  have hde := diskErr_good d hf
  have hc := h.cnt
  have hcnt := count_good d (by have := hf.n; omega) (by have := h.size; omega) (by have := h.size; omega)
  rw [h0] at hde
  rw [hc.1] at hcnt
  have hr : secsT d = match d.reads with
      | some l => .tup [.sl (l.map encStr), .int .i64 0]
      | none => .tup [.nils, .int .i64 31] := by rw [secsT, if_neg (by rw [h0]; exact fun q => q rfl)]
  have hfl : (secsT d).pureR = true := by rw [hr]; split <;> rfl
  generalize secsT d = r at hr hfl
  refine good_run [(6, [2, 3, 6, 7, 8, 17, 18, 19, 20, 21, 22, 23, 24, 25, 26, 27, 28, 29, 30, 31], [29, 1501009030])] mixed Try.func22 rfl Try.ntmps22 (rs := [.tmp 2, .tmp 3]) rfl (by decide +kernel) (by kernel_rfl) (hfl) ?_
  rw [startE_eq 33 _ _ _ rfl rfl]
  set_option maxRecDepth 100000 in simp (maxSteps := 10000000) only [go_sem, Nat.reduceAdd, Nat.reduceSub, Nat.reduceMul, Nat.reduceLT, Nat.reduceLeDiff, Nat.reduceEqDiff, Nat.reduceMod, Nat.reduceDiv, Int.reduceNeg, Int.reduceLE, Int.reduceLT, Int.reduceToNat, Int.reduceEq, Int.reduceNe, ↓reduceIte]
  refine call_of (hde) ?_
  set_option maxRecDepth 100000 in simp (maxSteps := 10000000) only [go_sem, Nat.reduceAdd, Nat.reduceSub, Nat.reduceMul, Nat.reduceLT, Nat.reduceLeDiff, Nat.reduceEqDiff, Nat.reduceMod, Nat.reduceDiv, Int.reduceNeg, Int.reduceLE, Int.reduceLT, Int.reduceToNat, Int.reduceEq, Int.reduceNe, ↓reduceIte]
  refine call_of (hcnt) ?_
  set_option maxRecDepth 100000 in simp (maxSteps := 10000000) only [go_sem, Nat.reduceAdd, Nat.reduceSub, Nat.reduceMul, Nat.reduceLT, Nat.reduceLeDiff, Nat.reduceEqDiff, Nat.reduceMod, Nat.reduceDiv, Int.reduceNeg, Int.reduceLE, Int.reduceLT, Int.reduceToNat, Int.reduceEq, Int.reduceNe, ↓reduceIte]
  refine loop_by ([2, 3, 6, 7, 8, 17, 18, 19, 20, 21, 22, 23, 24, 25, 26, 27, 28, 29, 30, 31], [29, 1501009030]) (fun i : Nat => [(.s 16, .int .i64 (i : Int)), (.o 29, deadV i), (.o 30, .obj (i + 1) 9 1 false true ((got d i).map encStr)), (.s 5, .ref 30 (i + 1))]) (fun i => d.count - i) (fun i => i ≤ d.count ∧ ∀ s, s < i → (d.read s).isSome = true) 0 rfl ⟨Nat.zero_le _, fun j hj => absurd hj (Nat.not_lt_zero _)⟩ ?_ ?_
  · set_option maxRecDepth 100000 in simp (maxSteps := 10000000) only [go_sem, Nat.reduceAdd, Nat.reduceSub, Nat.reduceMul, Nat.reduceLT, Nat.reduceLeDiff, Nat.reduceEqDiff, Nat.reduceMod, Nat.reduceDiv, Int.reduceNeg, Int.reduceLE, Int.reduceLT, Int.reduceToNat, Int.reduceEq, Int.reduceNe, ↓reduceIte]
    rfl
  rintro c' st' hst i ⟨hi, hp⟩ ih
  set_option maxRecDepth 100000 in simp (maxSteps := 10000000) only [go_sem, Nat.reduceAdd, Nat.reduceSub, Nat.reduceMul, Nat.reduceLT, Nat.reduceLeDiff, Nat.reduceEqDiff, Nat.reduceMod, Nat.reduceDiv, Int.reduceNeg, Int.reduceLE, Int.reduceLT, Int.reduceToNat, Int.reduceEq, Int.reduceNe, ↓reduceIte]
  refine ifI (fun hlt => ?_) fun hlt => ?_
  case refine_2 =>
    have hic : i = d.count := by omega
    subst hst hic
    set_option maxRecDepth 100000 in simp (maxSteps := 10000000) only [go_sem, Nat.reduceAdd, Nat.reduceSub, Nat.reduceMul, Nat.reduceLT, Nat.reduceLeDiff, Nat.reduceEqDiff, Nat.reduceMod, Nat.reduceDiv, Int.reduceNeg, Int.reduceLE, Int.reduceLT, Int.reduceToNat, Int.reduceEq, Int.reduceNe, ↓reduceIte,  hlt]
    rw [hr, reads_all hp]
  have hlt' : i < d.count := by omega
  have hrd := read_good d h hlt'
  unfold readT at hrd
  cases hx : d.read i with
  | none =>
    rw [hx] at hrd
    set_option maxRecDepth 100000 in simp (maxSteps := 10000000) only [go_sem, Nat.reduceAdd, Nat.reduceSub, Nat.reduceMul, Nat.reduceLT, Nat.reduceLeDiff, Nat.reduceEqDiff, Nat.reduceMod, Nat.reduceDiv, Int.reduceNeg, Int.reduceLE, Int.reduceLT, Int.reduceToNat, Int.reduceEq, Int.reduceNe, ↓reduceIte,  hlt]
    refine call_of (hrd) ?_
    set_option maxRecDepth 100000 in simp (maxSteps := 10000000) only [go_sem, Nat.reduceAdd, Nat.reduceSub, Nat.reduceMul, Nat.reduceLT, Nat.reduceLeDiff, Nat.reduceEqDiff, Nat.reduceMod, Nat.reduceDiv, Int.reduceNeg, Int.reduceLE, Int.reduceLT, Int.reduceToNat, Int.reduceEq, Int.reduceNe, ↓reduceIte,  Bool.not_false]
    rw [hr, reads_none hlt' hx]
  | some b =>
    rw [hx] at hrd
    set_option maxRecDepth 100000 in simp (maxSteps := 10000000) only [go_sem, Nat.reduceAdd, Nat.reduceSub, Nat.reduceMul, Nat.reduceLT, Nat.reduceLeDiff, Nat.reduceEqDiff, Nat.reduceMod, Nat.reduceDiv, Int.reduceNeg, Int.reduceLE, Int.reduceLT, Int.reduceToNat, Int.reduceEq, Int.reduceNe, ↓reduceIte,  hlt]
    refine call_of (hrd) ?_
    set_option maxRecDepth 100000 in simp (maxSteps := 10000000) only [go_sem, Nat.reduceAdd, Nat.reduceSub, Nat.reduceMul, Nat.reduceLT, Nat.reduceLeDiff, Nat.reduceEqDiff, Nat.reduceMod, Nat.reduceDiv, Int.reduceNeg, Int.reduceLE, Int.reduceLT, Int.reduceToNat, Int.reduceEq, Int.reduceNe, ↓reduceIte,  Bool.not_true, got_len, show (i + 1) * 16 ≤ 140737488355328 by omega, show i + 1 ≤ maxLen by unfold maxLen; omega]
    have hg : List.map encStr (got d (i + 1)) = List.map encStr (got d i) ++ [[.str b]] := by rw [got_succ d i b hx, List.map_append]; rfl
    refine ih (i + 1) _ ⟨by omega, fun s hs => ?_⟩ (by omega) ?_
    · rcases Nat.lt_or_ge s i with q | q
      · exact hp s q
      · have : s = i := by omega
        subst this; rw [hx]; rfl
    · set_option maxRecDepth 100000 in simp (maxSteps := 10000000) only [go_sem, Nat.reduceAdd, Nat.reduceSub, Nat.reduceMul, Nat.reduceLT, Nat.reduceLeDiff, Nat.reduceEqDiff, Nat.reduceMod, Nat.reduceDiv, Int.reduceNeg, Int.reduceLE, Int.reduceLT, Int.reduceToNat, Int.reduceEq, Int.reduceNe, ↓reduceIte,  wrap_succ (show i < 9223372036854775807 by omega), hg]

/-! ### Redundant disks -/
theorem idle1_good (u : DU) : Ans Try.prog 64 [.agg (encDU u)] (.bool (decide (¬ u.state = 0))) := by
  refine good_run [] mixed Try.func64 rfl Try.ntmps64 (rs := [.tmp 2]) rfl (by decide +kernel) (by kernel_rfl) rfl ?_
  rw [startE_eq 6 _ _ _ rfl rfl]
  set_option maxRecDepth 100000 in simp (maxSteps := 10000000) only [go_sem, Nat.reduceAdd, Nat.reduceSub, Nat.reduceMul, Nat.reduceLT, Nat.reduceLeDiff, Nat.reduceEqDiff, Nat.reduceMod, Nat.reduceDiv, Int.reduceNeg, Int.reduceLE, Int.reduceLT, Int.reduceToNat, Int.reduceEq, Int.reduceNe, ↓reduceIte]
theorem IndexU_good (l : List DU) (h : l.length ≤ 1000000) : Ans Try.prog 63 [.sl (l.map encDU), .fn 64 []] (.int .i64 (findIx (fun u : DU => decide (¬ u.state = 0)) l 0)) := by
  refine good_run [(2, [4, 5, 9, 10, 11, 12, 13, 14, 15, 16, 17, 18], [])] mixed Try.func63 rfl Try.ntmps63 (rs := [.tmp 4]) rfl (by decide +kernel) (by kernel_rfl) rfl ?_
  rw [startE_eq 19 _ _ _ rfl rfl]
  set_option maxRecDepth 100000 in simp (maxSteps := 10000000) only [go_sem, Nat.reduceAdd, Nat.reduceSub, Nat.reduceMul, Nat.reduceLT, Nat.reduceLeDiff, Nat.reduceEqDiff, Nat.reduceMod, Nat.reduceDiv, Int.reduceNeg, Int.reduceLE, Int.reduceLT, Int.reduceToNat, Int.reduceEq, Int.reduceNe, ↓reduceIte]
  refine loop_by ([4, 5, 9, 10, 11, 12, 13, 14, 15, 16, 17, 18], []) (fun i : Nat => [(.s 8, .int .i64 (i : Int))]) (fun i => l.length - i) (fun i => i ≤ l.length ∧ findIx (fun u : DU => decide (¬ u.state = 0)) l 0 = findIx (fun u : DU => decide (¬ u.state = 0)) (l.drop i) i) 0 rfl ⟨Nat.zero_le _, rfl⟩ rfl ?_
  rintro c' st' hst i ⟨hi, hf⟩ ih
  set_option maxRecDepth 100000 in simp (maxSteps := 10000000) only [go_sem, Nat.reduceAdd, Nat.reduceSub, Nat.reduceMul, Nat.reduceLT, Nat.reduceLeDiff, Nat.reduceEqDiff, Nat.reduceMod, Nat.reduceDiv, Int.reduceNeg, Int.reduceLE, Int.reduceLT, Int.reduceToNat, Int.reduceEq, Int.reduceNe, ↓reduceIte]
  refine ifI (fun hlt => ?_) fun hlt => ?_
  · set_option maxRecDepth 100000 in simp (maxSteps := 10000000) only [go_sem, Nat.reduceAdd, Nat.reduceSub, Nat.reduceMul, Nat.reduceLT, Nat.reduceLeDiff, Nat.reduceEqDiff, Nat.reduceMod, Nat.reduceDiv, Int.reduceNeg, Int.reduceLE, Int.reduceLT, Int.reduceToNat, Int.reduceEq, Int.reduceNe, ↓reduceIte,  hlt]
    refine call_of (idle1_good (nth l i)) ?_
    set_option maxRecDepth 100000 in simp (maxSteps := 10000000) only [go_sem, Nat.reduceAdd, Nat.reduceSub, Nat.reduceMul, Nat.reduceLT, Nat.reduceLeDiff, Nat.reduceEqDiff, Nat.reduceMod, Nat.reduceDiv, Int.reduceNeg, Int.reduceLE, Int.reduceLT, Int.reduceToNat, Int.reduceEq, Int.reduceNe, ↓reduceIte]
    refine ifI (fun hn => ?_) fun hn => ?_
    · set_option maxRecDepth 100000 in simp (maxSteps := 10000000) only [go_sem, Nat.reduceAdd, Nat.reduceSub, Nat.reduceMul, Nat.reduceLT, Nat.reduceLeDiff, Nat.reduceEqDiff, Nat.reduceMod, Nat.reduceDiv, Int.reduceNeg, Int.reduceLE, Int.reduceLT, Int.reduceToNat, Int.reduceEq, Int.reduceNe, ↓reduceIte,  hn]
      rw [hf, drop_nth hlt, findIx, if_pos (by simpa using hn)]
    · set_option maxRecDepth 100000 in simp (maxSteps := 10000000) only [go_sem, Nat.reduceAdd, Nat.reduceSub, Nat.reduceMul, Nat.reduceLT, Nat.reduceLeDiff, Nat.reduceEqDiff, Nat.reduceMod, Nat.reduceDiv, Int.reduceNeg, Int.reduceLE, Int.reduceLT, Int.reduceToNat, Int.reduceEq, Int.reduceNe, ↓reduceIte,  hn]
      refine ih (i + 1) _ ⟨by omega, ?_⟩ (by omega) ?_
      · rw [hf, drop_nth hlt, findIx, if_neg (by simpa using hn)]
      set_option maxRecDepth 100000 in simp (maxSteps := 10000000) only [go_sem, Nat.reduceAdd, Nat.reduceSub, Nat.reduceMul, Nat.reduceLT, Nat.reduceLeDiff, Nat.reduceEqDiff, Nat.reduceMod, Nat.reduceDiv, Int.reduceNeg, Int.reduceLE, Int.reduceLT, Int.reduceToNat, Int.reduceEq, Int.reduceNe, ↓reduceIte,  wrap_succ (show i < 9223372036854775807 by omega)]
  · subst hst
    set_option maxRecDepth 100000 in simp (maxSteps := 10000000) only [go_sem, Nat.reduceAdd, Nat.reduceSub, Nat.reduceMul, Nat.reduceLT, Nat.reduceLeDiff, Nat.reduceEqDiff, Nat.reduceMod, Nat.reduceDiv, Int.reduceNeg, Int.reduceLE, Int.reduceLT, Int.reduceToNat, Int.reduceEq, Int.reduceNe, ↓reduceIte,  hlt]
    rw [hf, List.drop_eq_nil_of_le (by omega)]; rfl
def idleIx (d : Disk) : Int := findIx (fun u : DU => decide (¬ u.state = 0)) d.units 0
theorem inactive_good (d : Disk) (h : FitD d) : Ans Try.prog 53 [.agg (encDisk d)] (.int .i64 (idleIx d)) := by
  refine good_run [] mixed Try.func53 rfl Try.ntmps53 (rs := [.tmp 2]) rfl (by decide +kernel) (by kernel_rfl) rfl ?_
  rw [startE_eq 6 _ _ _ rfl rfl]
  set_option maxRecDepth 100000 in simp (maxSteps := 10000000) only [go_sem, Nat.reduceAdd, Nat.reduceSub, Nat.reduceMul, Nat.reduceLT, Nat.reduceLeDiff, Nat.reduceEqDiff, Nat.reduceMod, Nat.reduceDiv, Int.reduceNeg, Int.reduceLE, Int.reduceLT, Int.reduceToNat, Int.reduceEq, Int.reduceNe, ↓reduceIte]
  refine call_of (IndexU_good d.units (by have := h.n; omega)) ?_
  set_option maxRecDepth 100000 in simp (maxSteps := 10000000) only [go_sem, Nat.reduceAdd, Nat.reduceSub, Nat.reduceMul, Nat.reduceLT, Nat.reduceLeDiff, Nat.reduceEqDiff, Nat.reduceMod, Nat.reduceDiv, Int.reduceNeg, Int.reduceLE, Int.reduceLT, Int.reduceToNat, Int.reduceEq, Int.reduceNe, ↓reduceIte]
  rfl
theorem idle_none {d : Disk} (h : ¬ 0 ≤ idleIx d) : ∀ j, j < d.n → (d.at j).state = 0 := fun j hj => by
  have := findIx_any (fun u : DU => decide (¬ u.state = 0)) d.units 0
  rw [show decide (0 ≤ findIx (fun u : DU => decide (¬ u.state = 0)) d.units 0) = false from decide_eq_false h] at this
  have h2 := List.any_eq_false.1 this.symm _ (nth_mem (l := d.units) hj)
  have h3 : ¬ ¬ (d.at j).state = 0 := fun q => h2 (decide_eq_true q)
  exact Classical.not_not.1 h3
theorem whole_of {d : Disk} (h : Okd d) (hi : ¬ 0 ≤ idleIx d) : Whole d where
  kind := h.kind
  n0 := h.n0
  n1 := h.n1
  n2 := h.n2
  size := h.size
  state := idle_none hi
  len := fun j hj => h.len j hj (by rw [idle_none hi j hj]; decide)
  s16 := fun j k hj hk => (h.active hj (idle_none hi j hj) hk).2

end Go.Proofs.Ytdfdagfgkijpcaa.C06
