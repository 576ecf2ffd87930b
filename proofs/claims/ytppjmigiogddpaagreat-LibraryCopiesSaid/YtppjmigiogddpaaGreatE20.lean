/- Chapter 9: what operations types permit; what a permitted operation finds. -/
import Derived.Test.YtppjmigiogddpaaGreatC18
import Derived.Test.YtppjmigiogddpaaGreatE12
namespace Go.Proofs.YtppjmigiogddpaaGreat.C08
open Go Go.Proofs Go.Proofs.YtppjmigiogddpaaGreat.Ab
set_option linter.unusedSimpArgs false
set_option linter.unusedVariables false
attribute [local congr] ite_ctx

def opsN (t n : Nat) : List Int := ((List.range n).filter (permR t)).map fun k : Nat => (k : Int)
theorem opsN_succ (t n : Nat) : opsN t (n + 1) = if permR t n = true then opsN t n ++ [(n : Int)] else opsN t n := by
  rw [opsN, List.range_succ, List.filter_append, List.map_append, opsN]
  simp only [List.filter_cons, List.filter_nil]
  split <;> simp
theorem opsN_len (t n : Nat) : (opsN t n).length ≤ n := by
  rw [opsN, List.length_map]
  exact Nat.le_trans (List.length_filter_le _ _) (by rw [List.length_range]; exact Nat.le_refl _)
def opsL (t : Int) : List Int := if inB t 0 29 = true then opsN t.toNat 9 else []
theorem encI_snoc (l : List Int) (n : Int) : List.map encInt l ++ [[.int .i64 n]] = List.map encInt (l ++ [n]) := by rw [List.map_append]; rfl
theorem opsN_any : ∀ t : Nat, t < 30 → ∀ k : Nat, k < 9 → ((opsN t 9).any fun p => decide (p = (k : Int))) = permR t k := by decide +kernel

set_option maxHeartbeats 4000000 in
theorem OperationsOf_good (t : Int) : Ans Tryz.prog 75 [.int .i64 t] (.tup [.sl ((opsL t).map encInt), .int .i64 (tyE t)]) := by
  have it := isType_good t
  cases h : inB t 0 29 with
  | false =>
    rw [h] at it
    rw [opsL, tyE, if_neg (by rw [h]; decide), if_neg (by rw [h]; decide)]
    refine Ans.le (r := .tup [.nils, .int .i64 4]) ?_ (.tup' (.cons .nils (.cons (.refl _) .nil))) rfl
    refine good_run [(5, [5, 10, 11, 12, 13, 14, 15, 16, 17, 18, 19], [1401003019, 18])] mixed Tryz.func75 rfl Tryz.ntmps75 (rs := [.tmp 2, .tmp 3]) rfl (by decide +kernel) (by kernel_rfl) rfl ?_
    rw [startE_eq 21 _ _ _ rfl rfl]
    set_option maxRecDepth 100000 in simp (maxSteps := 10000000) only [go_sem, Nat.reduceAdd, Nat.reduceSub, Nat.reduceMul, Nat.reduceLT, Nat.reduceLeDiff, Nat.reduceEqDiff, Nat.reduceMod, Nat.reduceDiv, Int.reduceNeg, Int.reduceLE, Int.reduceLT, Int.reduceToNat, Int.reduceEq, Int.reduceNe, ↓reduceIte]
    refine call_of (it) ?_
    set_option maxRecDepth 100000 in simp (maxSteps := 10000000) only [go_sem, Nat.reduceAdd, Nat.reduceSub, Nat.reduceMul, Nat.reduceLT, Nat.reduceLeDiff, Nat.reduceEqDiff, Nat.reduceMod, Nat.reduceDiv, Int.reduceNeg, Int.reduceLE, Int.reduceLT, Int.reduceToNat, Int.reduceEq, Int.reduceNe, ↓reduceIte,  Bool.not_false]
  | true =>
  rw [h] at it
  rw [opsL, tyE, if_pos h, if_pos h]
  obtain ⟨h1, h2⟩ := (inB_iff t).1 h
  obtain ⟨k, rfl⟩ : ∃ k : Nat, t = (k : Int) := ⟨t.toNat, by omega⟩
  have hk : k < 30 := by omega
  rw [Int.toNat_natCast]
  have hsz : (⟨#[114, 109, 121, 100, 101, 99, 97, 108, 115]⟩ : ByteArray).size = 9 := rfl
  have hby : ∀ i, i < 9 → byteAt ⟨#[114, 109, 121, 100, 101, 99, 97, 108, 115]⟩ i < 128 := by decide +kernel
  refine good_run [(5, [5, 10, 11, 12, 13, 14, 15, 16, 17, 18, 19], [1401003019, 18])] mixed Tryz.func75 rfl Tryz.ntmps75 (rs := [.tmp 2, .tmp 3]) rfl (by decide +kernel) (by kernel_rfl) rfl ?_
  rw [startE_eq 21 _ _ _ rfl rfl]
  set_option maxRecDepth 100000 in simp (maxSteps := 10000000) only [go_sem, Nat.reduceAdd, Nat.reduceSub, Nat.reduceMul, Nat.reduceLT, Nat.reduceLeDiff, Nat.reduceEqDiff, Nat.reduceMod, Nat.reduceDiv, Int.reduceNeg, Int.reduceLE, Int.reduceLT, Int.reduceToNat, Int.reduceEq, Int.reduceNe, ↓reduceIte]
  refine call_of (it) ?_
  set_option maxRecDepth 100000 in simp (maxSteps := 10000000) only [go_sem, Nat.reduceAdd, Nat.reduceSub, Nat.reduceMul, Nat.reduceLT, Nat.reduceLeDiff, Nat.reduceEqDiff, Nat.reduceMod, Nat.reduceDiv, Int.reduceNeg, Int.reduceLE, Int.reduceLT, Int.reduceToNat, Int.reduceEq, Int.reduceNe, ↓reduceIte,  Bool.not_true]
  refine loop_by ([5, 10, 11, 12, 13, 14, 15, 16, 17, 18, 19], [1401003019, 18]) (fun i : Nat => [(.s 4, .ref 19 ((opsN k i).length + 1)), (.o 9, .iter 1 ⟨#[114, 109, 121, 100, 101, 99, 97, 108, 115]⟩ i), (.o 18, deadV (opsN k i).length), (.o 19, .obj ((opsN k i).length + 1) 3 1 false true ((opsN k i).map encInt))]) (fun i => 9 - i) (fun i => i ≤ 9) 0 rfl (Nat.zero_le _) ?_ ?_
  · set_option maxRecDepth 100000 in simp (maxSteps := 10000000) only [go_sem, Nat.reduceAdd, Nat.reduceSub, Nat.reduceMul, Nat.reduceLT, Nat.reduceLeDiff, Nat.reduceEqDiff, Nat.reduceMod, Nat.reduceDiv, Int.reduceNeg, Int.reduceLE, Int.reduceLT, Int.reduceToNat, Int.reduceEq, Int.reduceNe, ↓reduceIte,  show opsN k 0 = [] from rfl, List.map_nil, List.length_nil]
  rintro c' st' hst i hi ih
  refine Classical.byCases (fun hlt : i < 9 => ?_) fun hlt => ?_
  case refine_2 =>
    have hi9 : i = 9 := by omega
    subst hi9 hst
    set_option maxRecDepth 100000 in simp (maxSteps := 10000000) only [go_sem, Nat.reduceAdd, Nat.reduceSub, Nat.reduceMul, Nat.reduceLT, Nat.reduceLeDiff, Nat.reduceEqDiff, Nat.reduceMod, Nat.reduceDiv, Int.reduceNeg, Int.reduceLE, Int.reduceLT, Int.reduceToNat, Int.reduceEq, Int.reduceNe, ↓reduceIte,  hsz, Nat.lt_irrefl, List.length_nil]
  have pm := permits_good k i hk hlt
  have hs := opsN_succ k i
  have hl := opsN_len k i
  have es := encI_snoc (opsN k i) (i : Int)
  have hb := hby i hlt
  set_option maxRecDepth 100000 in simp (maxSteps := 10000000) only [go_sem, Nat.reduceAdd, Nat.reduceSub, Nat.reduceMul, Nat.reduceLT, Nat.reduceLeDiff, Nat.reduceEqDiff, Nat.reduceMod, Nat.reduceDiv, Int.reduceNeg, Int.reduceLE, Int.reduceLT, Int.reduceToNat, Int.reduceEq, Int.reduceNe, ↓reduceIte,  hsz, hlt, hb]
  cases hp : permR k i with
  | false =>
    rw [hp] at pm hs
    rw [if_neg (by decide)] at hs
    refine call_of (pm) ?_
    set_option maxRecDepth 100000 in simp (maxSteps := 10000000) only [go_sem, Nat.reduceAdd, Nat.reduceSub, Nat.reduceMul, Nat.reduceLT, Nat.reduceLeDiff, Nat.reduceEqDiff, Nat.reduceMod, Nat.reduceDiv, Int.reduceNeg, Int.reduceLE, Int.reduceLT, Int.reduceToNat, Int.reduceEq, Int.reduceNe, ↓reduceIte]
    refine ih (i + 1) _ (by omega) (by omega) ?_
    set_option maxRecDepth 100000 in simp (maxSteps := 10000000) only [go_sem, Nat.reduceAdd, Nat.reduceSub, Nat.reduceMul, Nat.reduceLT, Nat.reduceLeDiff, Nat.reduceEqDiff, Nat.reduceMod, Nat.reduceDiv, Int.reduceNeg, Int.reduceLE, Int.reduceLT, Int.reduceToNat, Int.reduceEq, Int.reduceNe, ↓reduceIte,  hs]
  | true =>
    rw [hp] at pm hs
    rw [if_pos rfl] at hs
    have hl2 : (opsN k i ++ [(i : Int)]).length = (opsN k i).length + 1 := by rw [List.length_append]; rfl
    refine call_of (pm) ?_
    set_option maxRecDepth 100000 in simp (maxSteps := 10000000) only [go_sem, Nat.reduceAdd, Nat.reduceSub, Nat.reduceMul, Nat.reduceLT, Nat.reduceLeDiff, Nat.reduceEqDiff, Nat.reduceMod, Nat.reduceDiv, Int.reduceNeg, Int.reduceLE, Int.reduceLT, Int.reduceToNat, Int.reduceEq, Int.reduceNe, ↓reduceIte,  es, show ((opsN k i).length + 1) * 8 ≤ 140737488355328 by omega, show (opsN k i).length + 1 ≤ maxLen by unfold maxLen; omega]
    refine ih (i + 1) _ (by omega) (by omega) ?_
    set_option maxRecDepth 100000 in simp (maxSteps := 10000000) only [go_sem, Nat.reduceAdd, Nat.reduceSub, Nat.reduceMul, Nat.reduceLT, Nat.reduceLeDiff, Nat.reduceEqDiff, Nat.reduceMod, Nat.reduceDiv, Int.reduceNeg, Int.reduceLE, Int.reduceLT, Int.reduceToNat, Int.reduceEq, Int.reduceNe, ↓reduceIte,  hs, hl2]

theorem permitted_good (d : Dir) (n : OName) (k : Nat) (hk : k < 9) (h : d.objects.length ≤ 1000000) : Ans Tryz.prog 36 [.agg (encDir d), .agg (encOName n), .int .i64 (k : Int)] (.tup [.int .i64 (if foundE d n k = 0 then placeIx d.objects n else 0), .int .i64 (foundE d n k)]) := by
  have fd := Find_good d n h
  refine Classical.byCases (fun h1 : findE d n = 0 => ?_) fun h1 => ?_
  case refine_2 =>
    have he : foundE d n k = findE d n := by rw [foundE, if_pos h1]
    rw [he, if_neg h1]
    refine good_run [] mixed Tryz.func36 rfl Tryz.ntmps36 (rs := [.tmp 6, .tmp 7]) rfl (by decide +kernel) (by kernel_rfl) rfl ?_
    rw [startE_eq 32 _ _ _ rfl rfl]
    set_option maxRecDepth 100000 in simp (maxSteps := 10000000) only [go_sem, Nat.reduceAdd, Nat.reduceSub, Nat.reduceMul, Nat.reduceLT, Nat.reduceLeDiff, Nat.reduceEqDiff, Nat.reduceMod, Nat.reduceDiv, Int.reduceNeg, Int.reduceLE, Int.reduceLT, Int.reduceToNat, Int.reduceEq, Int.reduceNe, ↓reduceIte]
    refine call_of (fd) ?_
    set_option maxRecDepth 100000 in simp (maxSteps := 10000000) only [go_sem, Nat.reduceAdd, Nat.reduceSub, Nat.reduceMul, Nat.reduceLT, Nat.reduceLeDiff, Nat.reduceEqDiff, Nat.reduceMod, Nat.reduceDiv, Int.reduceNeg, Int.reduceLE, Int.reduceLT, Int.reduceToNat, Int.reduceEq, Int.reduceNe, ↓reduceIte,  h1, not_false_eq_true, decide_true]
  have hnm : errName n = 0 := by
    rw [findE] at h1
    split at h1
    · rename_i q; exact absurd h1 q
    split at h1
    · rename_i q; exact absurd h1 q
    · rename_i q; exact Classical.not_not.1 q
  obtain ⟨t, ht, htt⟩ := errName_type hnm
  have oo := OperationsOf_good n.type
  have hin : inB n.type 0 29 = true := (inB_iff _).2 (by omega)
  have hops : opsL n.type = opsN t 9 := by rw [opsL, if_pos hin, htt, Int.toNat_natCast]
  rw [hops, tyE, if_pos hin] at oo
  have hpe : findP d n = placeIx d.objects n := by rw [findP, if_pos h1]
  rw [h1, hpe] at fd
  have hlen := opsN_len t 9
  have ct := ContainsI_good (opsN t 9) (k : Int) (by omega)
  rw [opsN_any t ht k hk] at ct
  have hfe : foundE d n k = if permR t k = false then 39 else 0 := by rw [foundE, if_neg (not_not_intro h1), htt, Int.toNat_natCast]
  cases hp : permR t k with
  | false =>
    rw [hp] at ct
    rw [hfe, hp, show (if (false : Bool) = false then (39 : Int) else 0) = 39 from rfl, if_neg (by decide)]
    refine good_run [] mixed Tryz.func36 rfl Tryz.ntmps36 (rs := [.tmp 6, .tmp 7]) rfl (by decide +kernel) (by kernel_rfl) rfl ?_
    rw [startE_eq 32 _ _ _ rfl rfl]
    set_option maxRecDepth 100000 in simp (maxSteps := 10000000) only [go_sem, Nat.reduceAdd, Nat.reduceSub, Nat.reduceMul, Nat.reduceLT, Nat.reduceLeDiff, Nat.reduceEqDiff, Nat.reduceMod, Nat.reduceDiv, Int.reduceNeg, Int.reduceLE, Int.reduceLT, Int.reduceToNat, Int.reduceEq, Int.reduceNe, ↓reduceIte]
    refine call_of (fd) ?_
    set_option maxRecDepth 100000 in simp (maxSteps := 10000000) only [go_sem, Nat.reduceAdd, Nat.reduceSub, Nat.reduceMul, Nat.reduceLT, Nat.reduceLeDiff, Nat.reduceEqDiff, Nat.reduceMod, Nat.reduceDiv, Int.reduceNeg, Int.reduceLE, Int.reduceLT, Int.reduceToNat, Int.reduceEq, Int.reduceNe, ↓reduceIte,  not_true_eq_false, decide_false]
    refine call_of (oo) ?_
    set_option maxRecDepth 100000 in simp (maxSteps := 10000000) only [go_sem, Nat.reduceAdd, Nat.reduceSub, Nat.reduceMul, Nat.reduceLT, Nat.reduceLeDiff, Nat.reduceEqDiff, Nat.reduceMod, Nat.reduceDiv, Int.reduceNeg, Int.reduceLE, Int.reduceLT, Int.reduceToNat, Int.reduceEq, Int.reduceNe, ↓reduceIte]
    refine call_of (ct) ?_
    set_option maxRecDepth 100000 in simp (maxSteps := 10000000) only [go_sem, Nat.reduceAdd, Nat.reduceSub, Nat.reduceMul, Nat.reduceLT, Nat.reduceLeDiff, Nat.reduceEqDiff, Nat.reduceMod, Nat.reduceDiv, Int.reduceNeg, Int.reduceLE, Int.reduceLT, Int.reduceToNat, Int.reduceEq, Int.reduceNe, ↓reduceIte,  Bool.not_false]
  | true =>
    rw [hp] at ct
    rw [hfe, hp, show (if (true : Bool) = false then (39 : Int) else 0) = 0 from rfl, if_pos rfl]
    refine good_run [] mixed Tryz.func36 rfl Tryz.ntmps36 (rs := [.tmp 6, .tmp 7]) rfl (by decide +kernel) (by kernel_rfl) rfl ?_
    rw [startE_eq 32 _ _ _ rfl rfl]
    set_option maxRecDepth 100000 in simp (maxSteps := 10000000) only [go_sem, Nat.reduceAdd, Nat.reduceSub, Nat.reduceMul, Nat.reduceLT, Nat.reduceLeDiff, Nat.reduceEqDiff, Nat.reduceMod, Nat.reduceDiv, Int.reduceNeg, Int.reduceLE, Int.reduceLT, Int.reduceToNat, Int.reduceEq, Int.reduceNe, ↓reduceIte]
    refine call_of (fd) ?_
    set_option maxRecDepth 100000 in simp (maxSteps := 10000000) only [go_sem, Nat.reduceAdd, Nat.reduceSub, Nat.reduceMul, Nat.reduceLT, Nat.reduceLeDiff, Nat.reduceEqDiff, Nat.reduceMod, Nat.reduceDiv, Int.reduceNeg, Int.reduceLE, Int.reduceLT, Int.reduceToNat, Int.reduceEq, Int.reduceNe, ↓reduceIte,  not_true_eq_false, decide_false]
    refine call_of (oo) ?_
    set_option maxRecDepth 100000 in simp (maxSteps := 10000000) only [go_sem, Nat.reduceAdd, Nat.reduceSub, Nat.reduceMul, Nat.reduceLT, Nat.reduceLeDiff, Nat.reduceEqDiff, Nat.reduceMod, Nat.reduceDiv, Int.reduceNeg, Int.reduceLE, Int.reduceLT, Int.reduceToNat, Int.reduceEq, Int.reduceNe, ↓reduceIte]
    refine call_of (ct) ?_
    set_option maxRecDepth 100000 in simp (maxSteps := 10000000) only [go_sem, Nat.reduceAdd, Nat.reduceSub, Nat.reduceMul, Nat.reduceLT, Nat.reduceLeDiff, Nat.reduceEqDiff, Nat.reduceMod, Nat.reduceDiv, Int.reduceNeg, Int.reduceLE, Int.reduceLT, Int.reduceToNat, Int.reduceEq, Int.reduceNe, ↓reduceIte,  Bool.not_true]

def moveE2 (d : Dir) (n : OName) (s : ByteArray) : Int := if permR n.type.toNat 1 = false then 39 else if ¬ libE d.objects s = 0 then libE d.objects s else if 0 ≤ placeIx d.objects { n with lib := s } then 12 else 0
theorem MoveErr_good (d : Dir) (n : OName) (s : ByteArray) (h : d.objects.length ≤ 1000000) (t : Nat) (ht : t < 30) (htt : n.type = (t : Int)) : Ans Tryz.prog 13 [.agg (encDir d), .agg (encOName n), .str s] (.int .i64 (moveE2 d n s)) := by
  have pm := Permits_good t 1 ht (by decide)
  rw [← htt] at pm
  have rl := RefLib_good d s h
  have pl := Place_good d { n with lib := s } h
  have hpn := place_neg d.objects { n with lib := s }
  cases hp : permR t 1 with
  | false =>
    rw [hp] at pm
    rw [moveE2, htt, Int.toNat_natCast, if_pos hp]
    rw [htt] at pm
    refine good_run [] mixed Tryz.func13 rfl Tryz.ntmps13 (rs := [.tmp 6]) rfl (by decide +kernel) (by kernel_rfl) rfl ?_
    rw [startE_eq 26 _ _ _ rfl rfl]
    set_option maxRecDepth 100000 in simp (maxSteps := 10000000) only [go_sem, Nat.reduceAdd, Nat.reduceSub, Nat.reduceMul, Nat.reduceLT, Nat.reduceLeDiff, Nat.reduceEqDiff, Nat.reduceMod, Nat.reduceDiv, Int.reduceNeg, Int.reduceLE, Int.reduceLT, Int.reduceToNat, Int.reduceEq, Int.reduceNe, ↓reduceIte,  htt]
    refine call_of (pm) ?_
    set_option maxRecDepth 100000 in simp (maxSteps := 10000000) only [go_sem, Nat.reduceAdd, Nat.reduceSub, Nat.reduceMul, Nat.reduceLT, Nat.reduceLeDiff, Nat.reduceEqDiff, Nat.reduceMod, Nat.reduceDiv, Int.reduceNeg, Int.reduceLE, Int.reduceLT, Int.reduceToNat, Int.reduceEq, Int.reduceNe, ↓reduceIte,  Bool.not_false]
  | true =>
  rw [hp] at pm
  have he : moveE2 d n s = if ¬ libE d.objects s = 0 then libE d.objects s else if 0 ≤ placeIx d.objects { n with lib := s } then 12 else 0 := by rw [moveE2, htt, Int.toNat_natCast, if_neg (by rw [hp]; decide)]
  rw [he]
  refine Classical.byCases (fun h1 : libE d.objects s = 0 => ?_) fun h1 => ?_
  case refine_2 =>
    rw [if_pos h1]
    refine good_run [] mixed Tryz.func13 rfl Tryz.ntmps13 (rs := [.tmp 6]) rfl (by decide +kernel) (by kernel_rfl) rfl ?_
    rw [startE_eq 26 _ _ _ rfl rfl]
    set_option maxRecDepth 100000 in simp (maxSteps := 10000000) only [go_sem, Nat.reduceAdd, Nat.reduceSub, Nat.reduceMul, Nat.reduceLT, Nat.reduceLeDiff, Nat.reduceEqDiff, Nat.reduceMod, Nat.reduceDiv, Int.reduceNeg, Int.reduceLE, Int.reduceLT, Int.reduceToNat, Int.reduceEq, Int.reduceNe, ↓reduceIte]
    refine call_of (pm) ?_
    set_option maxRecDepth 100000 in simp (maxSteps := 10000000) only [go_sem, Nat.reduceAdd, Nat.reduceSub, Nat.reduceMul, Nat.reduceLT, Nat.reduceLeDiff, Nat.reduceEqDiff, Nat.reduceMod, Nat.reduceDiv, Int.reduceNeg, Int.reduceLE, Int.reduceLT, Int.reduceToNat, Int.reduceEq, Int.reduceNe, ↓reduceIte,  Bool.not_true]
    refine call_of (rl) ?_
    set_option maxRecDepth 100000 in simp (maxSteps := 10000000) only [go_sem, Nat.reduceAdd, Nat.reduceSub, Nat.reduceMul, Nat.reduceLT, Nat.reduceLeDiff, Nat.reduceEqDiff, Nat.reduceMod, Nat.reduceDiv, Int.reduceNeg, Int.reduceLE, Int.reduceLT, Int.reduceToNat, Int.reduceEq, Int.reduceNe, ↓reduceIte,  h1, not_false_eq_true, decide_true]
  rw [if_neg (not_not_intro h1)]
  refine Classical.byCases (fun h2 : 0 ≤ placeIx d.objects { n with lib := s } => ?_) fun h2 => ?_
  · have h3 : ¬ placeIx d.objects { n with lib := s } = -1 := by omega
    rw [if_pos h2]
    refine good_run [] mixed Tryz.func13 rfl Tryz.ntmps13 (rs := [.tmp 6]) rfl (by decide +kernel) (by kernel_rfl) rfl ?_
    rw [startE_eq 26 _ _ _ rfl rfl]
    set_option maxRecDepth 100000 in simp (maxSteps := 10000000) only [go_sem, Nat.reduceAdd, Nat.reduceSub, Nat.reduceMul, Nat.reduceLT, Nat.reduceLeDiff, Nat.reduceEqDiff, Nat.reduceMod, Nat.reduceDiv, Int.reduceNeg, Int.reduceLE, Int.reduceLT, Int.reduceToNat, Int.reduceEq, Int.reduceNe, ↓reduceIte]
    refine call_of (pm) ?_
    set_option maxRecDepth 100000 in simp (maxSteps := 10000000) only [go_sem, Nat.reduceAdd, Nat.reduceSub, Nat.reduceMul, Nat.reduceLT, Nat.reduceLeDiff, Nat.reduceEqDiff, Nat.reduceMod, Nat.reduceDiv, Int.reduceNeg, Int.reduceLE, Int.reduceLT, Int.reduceToNat, Int.reduceEq, Int.reduceNe, ↓reduceIte,  Bool.not_true]
    refine call_of (rl) ?_
    set_option maxRecDepth 100000 in simp (maxSteps := 10000000) only [go_sem, Nat.reduceAdd, Nat.reduceSub, Nat.reduceMul, Nat.reduceLT, Nat.reduceLeDiff, Nat.reduceEqDiff, Nat.reduceMod, Nat.reduceDiv, Int.reduceNeg, Int.reduceLE, Int.reduceLT, Int.reduceToNat, Int.reduceEq, Int.reduceNe, ↓reduceIte,  h1, not_true_eq_false, decide_false]
    refine call_of (pl) ?_
    set_option maxRecDepth 100000 in simp (maxSteps := 10000000) only [go_sem, Nat.reduceAdd, Nat.reduceSub, Nat.reduceMul, Nat.reduceLT, Nat.reduceLeDiff, Nat.reduceEqDiff, Nat.reduceMod, Nat.reduceDiv, Int.reduceNeg, Int.reduceLE, Int.reduceLT, Int.reduceToNat, Int.reduceEq, Int.reduceNe, ↓reduceIte,  h3, not_false_eq_true, decide_true]
  · have h3 : placeIx d.objects { n with lib := s } = -1 := by
      have := findIx_ge (fun o : Obj => decide (o.name = { n with lib := s })) d.objects 0
      unfold placeIx at h2 ⊢; omega
    rw [if_neg h2]
    refine good_run [] mixed Tryz.func13 rfl Tryz.ntmps13 (rs := [.tmp 6]) rfl (by decide +kernel) (by kernel_rfl) rfl ?_
    rw [startE_eq 26 _ _ _ rfl rfl]
    set_option maxRecDepth 100000 in simp (maxSteps := 10000000) only [go_sem, Nat.reduceAdd, Nat.reduceSub, Nat.reduceMul, Nat.reduceLT, Nat.reduceLeDiff, Nat.reduceEqDiff, Nat.reduceMod, Nat.reduceDiv, Int.reduceNeg, Int.reduceLE, Int.reduceLT, Int.reduceToNat, Int.reduceEq, Int.reduceNe, ↓reduceIte]
    refine call_of (pm) ?_
    set_option maxRecDepth 100000 in simp (maxSteps := 10000000) only [go_sem, Nat.reduceAdd, Nat.reduceSub, Nat.reduceMul, Nat.reduceLT, Nat.reduceLeDiff, Nat.reduceEqDiff, Nat.reduceMod, Nat.reduceDiv, Int.reduceNeg, Int.reduceLE, Int.reduceLT, Int.reduceToNat, Int.reduceEq, Int.reduceNe, ↓reduceIte,  Bool.not_true]
    refine call_of (rl) ?_
    set_option maxRecDepth 100000 in simp (maxSteps := 10000000) only [go_sem, Nat.reduceAdd, Nat.reduceSub, Nat.reduceMul, Nat.reduceLT, Nat.reduceLeDiff, Nat.reduceEqDiff, Nat.reduceMod, Nat.reduceDiv, Int.reduceNeg, Int.reduceLE, Int.reduceLT, Int.reduceToNat, Int.reduceEq, Int.reduceNe, ↓reduceIte,  h1, not_true_eq_false, decide_false]
    refine call_of (pl) ?_
    set_option maxRecDepth 100000 in simp (maxSteps := 10000000) only [go_sem, Nat.reduceAdd, Nat.reduceSub, Nat.reduceMul, Nat.reduceLT, Nat.reduceLeDiff, Nat.reduceEqDiff, Nat.reduceMod, Nat.reduceDiv, Int.reduceNeg, Int.reduceLE, Int.reduceLT, Int.reduceToNat, Int.reduceEq, Int.reduceNe, ↓reduceIte,  h3, not_true_eq_false, decide_false]
end Go.Proofs.YtppjmigiogddpaaGreat.C08
