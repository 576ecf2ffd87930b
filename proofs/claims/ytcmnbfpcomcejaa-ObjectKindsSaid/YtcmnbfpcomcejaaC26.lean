/- Chapter 8: kinds: their names, their operations; the law of kinds. -/
import Derived.Test.YtcmnbfpcomcejaaC17
import Derived.Test.YtcmnbfpcomcejaaC15
namespace Go.Proofs.Ytcmnbfpcomcejaa.C08
open Go Go.Proofs Go.Proofs.Ytcmnbfpcomcejaa.Ab
set_option linter.unusedSimpArgs false
set_option linter.unusedVariables false
attribute [local congr] ite_ctx

def tyNm (t : Int) : ByteArray := if inB t 0 29 = true then (nth kinds t.toNat).1 else ⟨#[]⟩
def tyE (t : Int) : Int := if inB t 0 29 = true then 0 else 4
theorem inB_iff (t : Int) : inB t 0 29 = true ↔ 0 ≤ t ∧ t ≤ 29 := by
  rw [inB]; simp
theorem TypeName_good (t : Int) : Ans Try.prog 35 [.int .i64 t] (.tup [.str (tyNm t), .int .i64 (tyE t)]) := by
  have it := isType_good t
  cases h : inB t 0 29 with
  | false =>
    rw [h] at it
    rw [tyNm, tyE, if_neg (by rw [h]; decide), if_neg (by rw [h]; decide)]
    refine good_run [] mixed Try.func35 rfl Try.ntmps35 (rs := [.tmp 2, .tmp 3]) rfl (by decide +kernel) (by kernel_rfl) rfl ?_
    rw [startE_eq 12 _ _ _ rfl rfl]
    set_option maxRecDepth 100000 in simp (maxSteps := 10000000) only [go_sem, Nat.reduceAdd, Nat.reduceSub, Nat.reduceMul, Nat.reduceLT, Nat.reduceLeDiff, Nat.reduceEqDiff, Nat.reduceMod, Nat.reduceDiv, Int.reduceNeg, Int.reduceLE, Int.reduceLT, Int.reduceToNat, Int.reduceEq, Int.reduceNe, ↓reduceIte]
    refine call_of (it) ?_
    set_option maxRecDepth 100000 in simp (maxSteps := 10000000) only [go_sem, Nat.reduceAdd, Nat.reduceSub, Nat.reduceMul, Nat.reduceLT, Nat.reduceLeDiff, Nat.reduceEqDiff, Nat.reduceMod, Nat.reduceDiv, Int.reduceNeg, Int.reduceLE, Int.reduceLT, Int.reduceToNat, Int.reduceEq, Int.reduceNe, ↓reduceIte,  Bool.not_false]
  | true =>
    rw [h] at it
    rw [tyNm, tyE, if_pos h, if_pos h]
    obtain ⟨h1, h2⟩ := (inB_iff t).1 h
    obtain ⟨k, rfl⟩ : ∃ k : Nat, t = (k : Int) := ⟨t.toNat, by omega⟩
    have hk : k < kinds.length := by have : kinds.length = 30 := by decide
                                     omega
    have kg := kinds_good
    rw [Int.toNat_natCast]
    generalize kinds = K at *
    refine good_run [] mixed Try.func35 rfl Try.ntmps35 (rs := [.tmp 2, .tmp 3]) rfl (by decide +kernel) (by kernel_rfl) rfl ?_
    rw [startE_eq 12 _ _ _ rfl rfl]
    set_option maxRecDepth 100000 in simp (maxSteps := 10000000) only [go_sem, Nat.reduceAdd, Nat.reduceSub, Nat.reduceMul, Nat.reduceLT, Nat.reduceLeDiff, Nat.reduceEqDiff, Nat.reduceMod, Nat.reduceDiv, Int.reduceNeg, Int.reduceLE, Int.reduceLT, Int.reduceToNat, Int.reduceEq, Int.reduceNe, ↓reduceIte]
    refine call_of (it) ?_
    set_option maxRecDepth 100000 in simp (maxSteps := 10000000) only [go_sem, Nat.reduceAdd, Nat.reduceSub, Nat.reduceMul, Nat.reduceLT, Nat.reduceLeDiff, Nat.reduceEqDiff, Nat.reduceMod, Nat.reduceDiv, Int.reduceNeg, Int.reduceLE, Int.reduceLT, Int.reduceToNat, Int.reduceEq, Int.reduceNe, ↓reduceIte,  Bool.not_true]
    refine call_of (kg) ?_
    set_option maxRecDepth 100000 in simp (maxSteps := 10000000) only [go_sem, Nat.reduceAdd, Nat.reduceSub, Nat.reduceMul, Nat.reduceLT, Nat.reduceLeDiff, Nat.reduceEqDiff, Nat.reduceMod, Nat.reduceDiv, Int.reduceNeg, Int.reduceLE, Int.reduceLT, Int.reduceToNat, Int.reduceEq, Int.reduceNe, ↓reduceIte,  hk]

def opsN (t n : Nat) : List Int := ((List.range n).filter (permR t)).map fun k : Nat => (k : Int)
theorem opsN_succ (t n : Nat) : opsN t (n + 1) = if permR t n = true then opsN t n ++ [(n : Int)] else opsN t n := by
  rw [opsN, List.range_succ, List.filter_append, List.map_append, opsN]
  simp only [List.filter_cons, List.filter_nil]
  split <;> simp
theorem opsN_len (t n : Nat) : (opsN t n).length ≤ n := by
  rw [opsN, List.length_map]
  exact Nat.le_trans (List.length_filter_le _ _) (by rw [List.length_range]; exact Nat.le_refl _)
def opsL (t : Int) : List Int := if inB t 0 29 = true then opsN t.toNat 9 else []
theorem encI_snoc (l : List Int) (n : Int) : List.map encInt l ++ [[.int .i64 n]] = List.map encInt (l ++ [n]) := by rw [List.map_append]; rfl

set_option maxHeartbeats 4000000 in
theorem OperationsOf_good (t : Int) : Ans Try.prog 36 [.int .i64 t] (.tup [.sl ((opsL t).map encInt), .int .i64 (tyE t)]) := by
  have it := isType_good t
  cases h : inB t 0 29 with
  | false =>
    rw [h] at it
    rw [opsL, tyE, if_neg (by rw [h]; decide), if_neg (by rw [h]; decide)]
    refine Ans.le (r := .tup [.nils, .int .i64 4]) ?_ (.tup' (.cons .nils (.cons (.refl _) .nil))) rfl
    refine good_run [(5, [5, 10, 11, 12, 13, 14, 15, 16, 17, 18, 19], [1401003019, 18])] mixed Try.func36 rfl Try.ntmps36 (rs := [.tmp 2, .tmp 3]) rfl (by decide +kernel) (by kernel_rfl) rfl ?_
    rw [startE_eq 21 _ _ _ rfl rfl]
    set_option maxRecDepth 100000 in simp (maxSteps := 10000000) only [go_sem, Nat.reduceAdd, Nat.reduceSub, Nat.reduceMul, Nat.reduceLT, Nat.reduceLeDiff, Nat.reduceEqDiff, Nat.reduceMod, Nat.reduceDiv, Int.reduceNeg, Int.reduceLE, Int.reduceLT, Int.reduceToNat, Int.reduceEq, Int.reduceNe, ↓reduceIte]
    refine call_of (it) ?_
    set_option maxRecDepth 100000 in simp (maxSteps := 10000000) only [go_sem, Nat.reduceAdd, Nat.reduceSub, Nat.reduceMul, Nat.reduceLT, Nat.reduceLeDiff, Nat.reduceEqDiff, Nat.reduceMod, Nat.reduceDiv, Int.reduceNeg, Int.reduceLE, Int.reduceLT, Int.reduceToNat, Int.reduceEq, Int.reduceNe, ↓reduceIte,  Bool.not_false]
  | true =>
  rw [h] at it
  rw [opsL, tyE, if_pos h, if_pos h]
  obtain ⟨h1, h2⟩ := (inB_iff t).1 h
  obtain ⟨k, rfl⟩ : ∃ k : Nat, t = (k : Int) := ⟨t.toNat, by omega⟩
  have hk : k < 30 := by omega
  rw [Int.toNat_natCast]
  have hsz : (⟨#[114, 109, 121, 100, 101, 99, 97, 108, 115]⟩ : ByteArray).size = 9 := rfl
  have hby : ∀ i, i < 9 → byteAt ⟨#[114, 109, 121, 100, 101, 99, 97, 108, 115]⟩ i < 128 := by decide +kernel
  refine good_run [(5, [5, 10, 11, 12, 13, 14, 15, 16, 17, 18, 19], [1401003019, 18])] mixed Try.func36 rfl Try.ntmps36 (rs := [.tmp 2, .tmp 3]) rfl (by decide +kernel) (by kernel_rfl) rfl ?_
  rw [startE_eq 21 _ _ _ rfl rfl]
  set_option maxRecDepth 100000 in simp (maxSteps := 10000000) only [go_sem, Nat.reduceAdd, Nat.reduceSub, Nat.reduceMul, Nat.reduceLT, Nat.reduceLeDiff, Nat.reduceEqDiff, Nat.reduceMod, Nat.reduceDiv, Int.reduceNeg, Int.reduceLE, Int.reduceLT, Int.reduceToNat, Int.reduceEq, Int.reduceNe, ↓reduceIte]
  refine call_of (it) ?_
  set_option maxRecDepth 100000 in simp (maxSteps := 10000000) only [go_sem, Nat.reduceAdd, Nat.reduceSub, Nat.reduceMul, Nat.reduceLT, Nat.reduceLeDiff, Nat.reduceEqDiff, Nat.reduceMod, Nat.reduceDiv, Int.reduceNeg, Int.reduceLE, Int.reduceLT, Int.reduceToNat, Int.reduceEq, Int.reduceNe, ↓reduceIte,  Bool.not_true]
  refine loop_by ([5, 10, 11, 12, 13, 14, 15, 16, 17, 18, 19], [1401003019, 18]) (fun i : Nat => [(.s 4, .ref 19 ((opsN k i).length + 1)), (.o 9, .iter 1 ⟨#[114, 109, 121, 100, 101, 99, 97, 108, 115]⟩ i), (.o 18, deadV (opsN k i).length), (.o 19, .obj ((opsN k i).length + 1) 3 1 false true ((opsN k i).map encInt))]) (fun i => 9 - i) (fun i => i ≤ 9) 0 rfl (Nat.zero_le _) ?_ ?_
  · set_option maxRecDepth 100000 in simp (maxSteps := 10000000) only [go_sem, Nat.reduceAdd, Nat.reduceSub, Nat.reduceMul, Nat.reduceLT, Nat.reduceLeDiff, Nat.reduceEqDiff, Nat.reduceMod, Nat.reduceDiv, Int.reduceNeg, Int.reduceLE, Int.reduceLT, Int.reduceToNat, Int.reduceEq, Int.reduceNe, ↓reduceIte,  show opsN k 0 = [] from rfl, List.map_nil, List.length_nil]
  rintro c' st' hst i hi ih
  refine Classical.byCases (fun hlt : i < 9 => ?_) fun hlt => ?_
  case refine_2 =>
    have hi9 : i = 9 := by omega
    subst hi9 hst
    set_option maxRecDepth 100000 in simp (maxSteps := 10000000) only [go_sem, Nat.reduceAdd, Nat.reduceSub, Nat.reduceMul, Nat.reduceLT, Nat.reduceLeDiff, Nat.reduceEqDiff, Nat.reduceMod, Nat.reduceDiv, Int.reduceNeg, Int.reduceLE, Int.reduceLT, Int.reduceToNat, Int.reduceEq, Int.reduceNe, ↓reduceIte,  hsz, Nat.lt_irrefl, List.length_nil]
  have pm := permits_good k i hk hlt
  have hs := opsN_succ k i
  have hl := opsN_len k i
  have es := encI_snoc (opsN k i) (i : Int)
  have hb := hby i hlt
  set_option maxRecDepth 100000 in simp (maxSteps := 10000000) only [go_sem, Nat.reduceAdd, Nat.reduceSub, Nat.reduceMul, Nat.reduceLT, Nat.reduceLeDiff, Nat.reduceEqDiff, Nat.reduceMod, Nat.reduceDiv, Int.reduceNeg, Int.reduceLE, Int.reduceLT, Int.reduceToNat, Int.reduceEq, Int.reduceNe, ↓reduceIte,  hsz, hlt, hb]
  cases hp : permR k i with
  | false =>
    rw [hp] at pm hs
    rw [if_neg (by decide)] at hs
    refine call_of (pm) ?_
    set_option maxRecDepth 100000 in simp (maxSteps := 10000000) only [go_sem, Nat.reduceAdd, Nat.reduceSub, Nat.reduceMul, Nat.reduceLT, Nat.reduceLeDiff, Nat.reduceEqDiff, Nat.reduceMod, Nat.reduceDiv, Int.reduceNeg, Int.reduceLE, Int.reduceLT, Int.reduceToNat, Int.reduceEq, Int.reduceNe, ↓reduceIte]
    refine ih (i + 1) _ (by omega) (by omega) ?_
    set_option maxRecDepth 100000 in simp (maxSteps := 10000000) only [go_sem, Nat.reduceAdd, Nat.reduceSub, Nat.reduceMul, Nat.reduceLT, Nat.reduceLeDiff, Nat.reduceEqDiff, Nat.reduceMod, Nat.reduceDiv, Int.reduceNeg, Int.reduceLE, Int.reduceLT, Int.reduceToNat, Int.reduceEq, Int.reduceNe, ↓reduceIte,  hs]
  | true =>
    rw [hp] at pm hs
    rw [if_pos rfl] at hs
    have hl2 : (opsN k i ++ [(i : Int)]).length = (opsN k i).length + 1 := by rw [List.length_append]; rfl
    refine call_of (pm) ?_
    set_option maxRecDepth 100000 in simp (maxSteps := 10000000) only [go_sem, Nat.reduceAdd, Nat.reduceSub, Nat.reduceMul, Nat.reduceLT, Nat.reduceLeDiff, Nat.reduceEqDiff, Nat.reduceMod, Nat.reduceDiv, Int.reduceNeg, Int.reduceLE, Int.reduceLT, Int.reduceToNat, Int.reduceEq, Int.reduceNe, ↓reduceIte,  es, show ((opsN k i).length + 1) * 8 ≤ 140737488355328 by omega, show (opsN k i).length + 1 ≤ maxLen by unfold maxLen; omega]
    refine ih (i + 1) _ (by omega) (by omega) ?_
    set_option maxRecDepth 100000 in simp (maxSteps := 10000000) only [go_sem, Nat.reduceAdd, Nat.reduceSub, Nat.reduceMul, Nat.reduceLT, Nat.reduceLeDiff, Nat.reduceEqDiff, Nat.reduceMod, Nat.reduceDiv, Int.reduceNeg, Int.reduceLE, Int.reduceLT, Int.reduceToNat, Int.reduceEq, Int.reduceNe, ↓reduceIte,  hs, hl2]

set_option maxHeartbeats 4000000 in
theorem Operations_good (k : Nat) (hk : k < 30) : Ans Try.prog 40 [.int .i64 (k : Int)] (.sl ((opsN k 9).map encInt)) := by
  refine good_run [(3, [5, 6, 7, 8, 9, 10, 11, 12, 13, 14, 15], [1301003015, 14])] mixed Try.func40 rfl Try.ntmps40 (rs := [.tmp 2]) rfl (by decide +kernel) (by kernel_rfl) rfl ?_
  rw [startE_eq 17 _ _ _ rfl rfl]
  set_option maxRecDepth 100000 in simp (maxSteps := 10000000) only [go_sem, Nat.reduceAdd, Nat.reduceSub, Nat.reduceMul, Nat.reduceLT, Nat.reduceLeDiff, Nat.reduceEqDiff, Nat.reduceMod, Nat.reduceDiv, Int.reduceNeg, Int.reduceLE, Int.reduceLT, Int.reduceToNat, Int.reduceEq, Int.reduceNe, ↓reduceIte]
  refine loop_by ([5, 6, 7, 8, 9, 10, 11, 12, 13, 14, 15], [1301003015, 14]) (fun i : Nat => [(.s 3, .ref 15 ((opsN k i).length + 1)), (.s 4, .int .i64 (i : Int)), (.o 14, deadV (opsN k i).length), (.o 15, .obj ((opsN k i).length + 1) 3 1 false true ((opsN k i).map encInt))]) (fun i => 9 - i) (fun i => i ≤ 9) 0 rfl (Nat.zero_le _) ?_ ?_
  · set_option maxRecDepth 100000 in simp (maxSteps := 10000000) only [go_sem, Nat.reduceAdd, Nat.reduceSub, Nat.reduceMul, Nat.reduceLT, Nat.reduceLeDiff, Nat.reduceEqDiff, Nat.reduceMod, Nat.reduceDiv, Int.reduceNeg, Int.reduceLE, Int.reduceLT, Int.reduceToNat, Int.reduceEq, Int.reduceNe, ↓reduceIte,  show opsN k 0 = [] from rfl, List.map_nil, List.length_nil]
  rintro c' st' hst i hi ih
  set_option maxRecDepth 100000 in simp (maxSteps := 10000000) only [go_sem, Nat.reduceAdd, Nat.reduceSub, Nat.reduceMul, Nat.reduceLT, Nat.reduceLeDiff, Nat.reduceEqDiff, Nat.reduceMod, Nat.reduceDiv, Int.reduceNeg, Int.reduceLE, Int.reduceLT, Int.reduceToNat, Int.reduceEq, Int.reduceNe, ↓reduceIte]
  refine ifI (fun hlt => ?_) fun hlt => ?_
  case refine_2 =>
    have hi9 : i = 9 := by omega
    subst hi9 hst
    set_option maxRecDepth 100000 in simp (maxSteps := 10000000) only [go_sem, Nat.reduceAdd, Nat.reduceSub, Nat.reduceMul, Nat.reduceLT, Nat.reduceLeDiff, Nat.reduceEqDiff, Nat.reduceMod, Nat.reduceDiv, Int.reduceNeg, Int.reduceLE, Int.reduceLT, Int.reduceToNat, Int.reduceEq, Int.reduceNe, ↓reduceIte]
  have hlt' : i < 9 := by omega
  have pm := Permits_good k i hk hlt'
  have hs := opsN_succ k i
  have hl := opsN_len k i
  have es := encI_snoc (opsN k i) (i : Int)
  set_option maxRecDepth 100000 in simp (maxSteps := 10000000) only [go_sem, Nat.reduceAdd, Nat.reduceSub, Nat.reduceMul, Nat.reduceLT, Nat.reduceLeDiff, Nat.reduceEqDiff, Nat.reduceMod, Nat.reduceDiv, Int.reduceNeg, Int.reduceLE, Int.reduceLT, Int.reduceToNat, Int.reduceEq, Int.reduceNe, ↓reduceIte]
  cases hp : permR k i with
  | false =>
    rw [hp] at pm hs
    rw [if_neg (by decide)] at hs
    refine call_of (pm) ?_
    set_option maxRecDepth 100000 in simp (maxSteps := 10000000) only [go_sem, Nat.reduceAdd, Nat.reduceSub, Nat.reduceMul, Nat.reduceLT, Nat.reduceLeDiff, Nat.reduceEqDiff, Nat.reduceMod, Nat.reduceDiv, Int.reduceNeg, Int.reduceLE, Int.reduceLT, Int.reduceToNat, Int.reduceEq, Int.reduceNe, ↓reduceIte]
    refine ih (i + 1) _ (by omega) (by omega) ?_
    set_option maxRecDepth 100000 in simp (maxSteps := 10000000) only [go_sem, Nat.reduceAdd, Nat.reduceSub, Nat.reduceMul, Nat.reduceLT, Nat.reduceLeDiff, Nat.reduceEqDiff, Nat.reduceMod, Nat.reduceDiv, Int.reduceNeg, Int.reduceLE, Int.reduceLT, Int.reduceToNat, Int.reduceEq, Int.reduceNe, ↓reduceIte,  hs, wrap_succ (show i < 9223372036854775807 by omega)]
  | true =>
    rw [hp] at pm hs
    rw [if_pos rfl] at hs
    have hl2 : (opsN k i ++ [(i : Int)]).length = (opsN k i).length + 1 := by rw [List.length_append]; rfl
    refine call_of (pm) ?_
    set_option maxRecDepth 100000 in simp (maxSteps := 10000000) only [go_sem, Nat.reduceAdd, Nat.reduceSub, Nat.reduceMul, Nat.reduceLT, Nat.reduceLeDiff, Nat.reduceEqDiff, Nat.reduceMod, Nat.reduceDiv, Int.reduceNeg, Int.reduceLE, Int.reduceLT, Int.reduceToNat, Int.reduceEq, Int.reduceNe, ↓reduceIte,  es, show ((opsN k i).length + 1) * 8 ≤ 140737488355328 by omega, show (opsN k i).length + 1 ≤ maxLen by unfold maxLen; omega]
    refine ih (i + 1) _ (by omega) (by omega) ?_
    set_option maxRecDepth 100000 in simp (maxSteps := 10000000) only [go_sem, Nat.reduceAdd, Nat.reduceSub, Nat.reduceMul, Nat.reduceLT, Nat.reduceLeDiff, Nat.reduceEqDiff, Nat.reduceMod, Nat.reduceDiv, Int.reduceNeg, Int.reduceLE, Int.reduceLT, Int.reduceToNat, Int.reduceEq, Int.reduceNe, ↓reduceIte,  hs, hl2, wrap_succ (show i < 9223372036854775807 by omega)]

-- names
def tyT : ByteArray := ⟨(kinds.flatMap fun k => k.1.data.toList ++ [32]).toArray⟩
def spF : Nat → Nat → Nat
  | 0, i => i
  | k + 1, i => if byteAt tyT i = 32 then i else spF k (i + 1)
def spI (i : Nat) : Nat := spF 300 i
def stI : Nat → Nat
  | 0 => 0
  | n + 1 => spI (stI n) + 1
theorem sp_facts : ∀ j, j < 30 → byteAt tyT (spI (stI j)) = 32 ∧ spI (stI j) < tyT.size ∧ stI j ≤ spI (stI j) ∧ (∀ a, a < spI (stI j) - stI j → ¬ byteAt tyT (stI j + a) = 32) ∧ tyT.extract (stI j) (spI (stI j)) = (nth kinds j).1 := by decide +kernel
theorem tyT_size : tyT.size ≤ 1000 := by decide +kernel
set_option maxHeartbeats 4000000 in
theorem NameOfType_good (t : Nat) (ht : t < 30) : Ans Try.prog 38 [.int .i64 (t : Int)] (.str (nth kinds t).1) := by
  have hz := tyT_size
  refine good_run [(8, [17, 18, 19, 20, 21], []), (4, [9, 10, 11, 12, 13], []), (2, [5, 6, 7, 8, 9, 10, 11, 12, 13, 14, 15], [])] mixed Try.func38 rfl Try.ntmps38 (rs := [.tmp 2]) rfl (by decide +kernel) (by kernel_rfl) rfl ?_
  rw [startE_eq 25 _ _ _ rfl rfl]
  generalize hT : ByteArray.mk (List.toArray (List.append _ _)) = T
  have hT : T = tyT := hT.symm.trans (by decide +kernel)
  subst hT
  set_option maxRecDepth 100000 in simp (maxSteps := 10000000) only [go_sem, Nat.reduceAdd, Nat.reduceSub, Nat.reduceMul, Nat.reduceLT, Nat.reduceLeDiff, Nat.reduceEqDiff, Nat.reduceMod, Nat.reduceDiv, Int.reduceNeg, Int.reduceLE, Int.reduceLT, Int.reduceToNat, Int.reduceEq, Int.reduceNe, ↓reduceIte]
  refine loop_by ([5, 6, 7, 8, 9, 10, 11, 12, 13, 14, 15], []) (fun j : Nat => [(.s 0, .int .i64 ((t - j : Nat) : Int)), (.s 3, .int .i64 (stI j : Int))]) (fun j => t - j) (fun j => j ≤ t) 0 rfl (Nat.zero_le _) rfl ?_
  rintro c' st' hst j hj ih
  set_option maxRecDepth 100000 in simp (maxSteps := 10000000) only [go_sem, Nat.reduceAdd, Nat.reduceSub, Nat.reduceMul, Nat.reduceLT, Nat.reduceLeDiff, Nat.reduceEqDiff, Nat.reduceMod, Nat.reduceDiv, Int.reduceNeg, Int.reduceLE, Int.reduceLT, Int.reduceToNat, Int.reduceEq, Int.reduceNe, ↓reduceIte]
  refine ifI (fun hlt => ?_) fun hlt => ?_
  · have hjt : j < t := by omega
    obtain ⟨q1, q2, q3, q4, -⟩ := sp_facts j (by omega)
    set_option maxRecDepth 100000 in simp (maxSteps := 10000000) only [go_sem, Nat.reduceAdd, Nat.reduceSub, Nat.reduceMul, Nat.reduceLT, Nat.reduceLeDiff, Nat.reduceEqDiff, Nat.reduceMod, Nat.reduceDiv, Int.reduceNeg, Int.reduceLE, Int.reduceLT, Int.reduceToNat, Int.reduceEq, Int.reduceNe, ↓reduceIte]
    refine loop_by ([9, 10, 11, 12, 13], []) (fun a : Nat => [(.s 3, .int .i64 (a : Int))]) (fun a => spI (stI j) - a) (fun a => stI j ≤ a ∧ a ≤ spI (stI j)) (stI j) rfl ⟨Nat.le_refl _, q3⟩ rfl ?_
    rintro c2 st2 hst2 a ⟨ha1, ha2⟩ ih2
    have ha3 : (a : Int) < (tyT.size : Int) := by omega
    have ha4 : a < tyT.size := by omega
    set_option maxRecDepth 100000 in simp (maxSteps := 10000000) only [go_sem, Nat.reduceAdd, Nat.reduceSub, Nat.reduceMul, Nat.reduceLT, Nat.reduceLeDiff, Nat.reduceEqDiff, Nat.reduceMod, Nat.reduceDiv, Int.reduceNeg, Int.reduceLE, Int.reduceLT, Int.reduceToNat, Int.reduceEq, Int.reduceNe, ↓reduceIte,  ha3, ha4]
    refine ifI (fun hs => ?_) fun hs => ?_
    · have hne : ¬ a = spI (stI j) := fun e => by
        rw [e, q1] at hs; simp at hs
      set_option maxRecDepth 100000 in simp (maxSteps := 10000000) only [go_sem, Nat.reduceAdd, Nat.reduceSub, Nat.reduceMul, Nat.reduceLT, Nat.reduceLeDiff, Nat.reduceEqDiff, Nat.reduceMod, Nat.reduceDiv, Int.reduceNeg, Int.reduceLE, Int.reduceLT, Int.reduceToNat, Int.reduceEq, Int.reduceNe, ↓reduceIte]
      refine ih2 (a + 1) _ ⟨by omega, by omega⟩ (by omega) ?_
      set_option maxRecDepth 100000 in simp (maxSteps := 10000000) only [go_sem, Nat.reduceAdd, Nat.reduceSub, Nat.reduceMul, Nat.reduceLT, Nat.reduceLeDiff, Nat.reduceEqDiff, Nat.reduceMod, Nat.reduceDiv, Int.reduceNeg, Int.reduceLE, Int.reduceLT, Int.reduceToNat, Int.reduceEq, Int.reduceNe, ↓reduceIte,  wrap_succ (show a < 9223372036854775807 by omega)]
    · have hae : a = spI (stI j) := by
        refine Classical.byContradiction fun hne => q4 (a - stI j) (by omega) ?_
        rw [show stI j + (a - stI j) = a by omega]
        simpa using hs
      have hst3 : a + 1 = stI (j + 1) := by rw [stI, hae]
      subst hst2
      set_option maxRecDepth 100000 in simp (maxSteps := 10000000) only [go_sem, Nat.reduceAdd, Nat.reduceSub, Nat.reduceMul, Nat.reduceLT, Nat.reduceLeDiff, Nat.reduceEqDiff, Nat.reduceMod, Nat.reduceDiv, Int.reduceNeg, Int.reduceLE, Int.reduceLT, Int.reduceToNat, Int.reduceEq, Int.reduceNe, ↓reduceIte]
      refine ih (j + 1) _ (by omega) (by omega) ?_
      set_option maxRecDepth 100000 in simp (maxSteps := 10000000) only [go_sem, Nat.reduceAdd, Nat.reduceSub, Nat.reduceMul, Nat.reduceLT, Nat.reduceLeDiff, Nat.reduceEqDiff, Nat.reduceMod, Nat.reduceDiv, Int.reduceNeg, Int.reduceLE, Int.reduceLT, Int.reduceToNat, Int.reduceEq, Int.reduceNe, ↓reduceIte,  wrap_succ (show a < 9223372036854775807 by omega), hst3, wrap_pred (show 0 < t - j by omega) (show t - j ≤ 9223372036854775807 by omega), show t - j - 1 = t - (j + 1) by omega]
  have hjt : j = t := by omega
  obtain ⟨q1, q2, q3, q4, q5⟩ := sp_facts j (by omega)
  subst hjt hst
  set_option maxRecDepth 100000 in simp (maxSteps := 10000000) only [go_sem, Nat.reduceAdd, Nat.reduceSub, Nat.reduceMul, Nat.reduceLT, Nat.reduceLeDiff, Nat.reduceEqDiff, Nat.reduceMod, Nat.reduceDiv, Int.reduceNeg, Int.reduceLE, Int.reduceLT, Int.reduceToNat, Int.reduceEq, Int.reduceNe, ↓reduceIte]
  refine loop_by ([17, 18, 19, 20, 21], []) (fun a : Nat => [(.s 4, .int .i64 (a : Int))]) (fun a => spI (stI j) - a) (fun a => stI j ≤ a ∧ a ≤ spI (stI j)) (stI j) rfl ⟨Nat.le_refl _, q3⟩ rfl ?_
  rintro c2 st2 hst2 a ⟨ha1, ha2⟩ ih2
  have ha3 : (a : Int) < (tyT.size : Int) := by omega
  have ha4 : a < tyT.size := by omega
  set_option maxRecDepth 100000 in simp (maxSteps := 10000000) only [go_sem, Nat.reduceAdd, Nat.reduceSub, Nat.reduceMul, Nat.reduceLT, Nat.reduceLeDiff, Nat.reduceEqDiff, Nat.reduceMod, Nat.reduceDiv, Int.reduceNeg, Int.reduceLE, Int.reduceLT, Int.reduceToNat, Int.reduceEq, Int.reduceNe, ↓reduceIte,  ha3, ha4]
  refine ifI (fun hs => ?_) fun hs => ?_
  · have hne : ¬ a = spI (stI j) := fun e => by
      rw [e, q1] at hs; simp at hs
    set_option maxRecDepth 100000 in simp (maxSteps := 10000000) only [go_sem, Nat.reduceAdd, Nat.reduceSub, Nat.reduceMul, Nat.reduceLT, Nat.reduceLeDiff, Nat.reduceEqDiff, Nat.reduceMod, Nat.reduceDiv, Int.reduceNeg, Int.reduceLE, Int.reduceLT, Int.reduceToNat, Int.reduceEq, Int.reduceNe, ↓reduceIte]
    refine ih2 (a + 1) _ ⟨by omega, by omega⟩ (by omega) ?_
    set_option maxRecDepth 100000 in simp (maxSteps := 10000000) only [go_sem, Nat.reduceAdd, Nat.reduceSub, Nat.reduceMul, Nat.reduceLT, Nat.reduceLeDiff, Nat.reduceEqDiff, Nat.reduceMod, Nat.reduceDiv, Int.reduceNeg, Int.reduceLE, Int.reduceLT, Int.reduceToNat, Int.reduceEq, Int.reduceNe, ↓reduceIte,  wrap_succ (show a < 9223372036854775807 by omega)]
  · have hae : a = spI (stI j) := by
      refine Classical.byContradiction fun hne => q4 (a - stI j) (by omega) ?_
      rw [show stI j + (a - stI j) = a by omega]
      simpa using hs
    have h1 : (stI j : Int) ≤ (a : Int) := by omega
    have h2 : (a : Int) ≤ (tyT.size : Int) := by omega
    subst hst2
    set_option maxRecDepth 100000 in simp (maxSteps := 10000000) only [go_sem, Nat.reduceAdd, Nat.reduceSub, Nat.reduceMul, Nat.reduceLT, Nat.reduceLeDiff, Nat.reduceEqDiff, Nat.reduceMod, Nat.reduceDiv, Int.reduceNeg, Int.reduceLE, Int.reduceLT, Int.reduceToNat, Int.reduceEq, Int.reduceNe, ↓reduceIte,  h1, h2]
    rw [hae]; exact q5

-- the type with a name
theorem k1_good (s : ByteArray) (o : ByteArray × ByteArray) : Ans Try.prog 85 [.agg (encKind o), .ptr [.str s]] (.bool (decide (o.1 = s))) := by
  refine good_run [] mixed Try.func85 rfl Try.ntmps85 (rs := [.tmp 3]) rfl (by decide +kernel) (by kernel_rfl) rfl ?_
  rw [startE_eq 8 _ _ _ rfl rfl]
  set_option maxRecDepth 100000 in simp (maxSteps := 10000000) only [go_sem, Nat.reduceAdd, Nat.reduceSub, Nat.reduceMul, Nat.reduceLT, Nat.reduceLeDiff, Nat.reduceEqDiff, Nat.reduceMod, Nat.reduceDiv, Int.reduceNeg, Int.reduceLE, Int.reduceLT, Int.reduceToNat, Int.reduceEq, Int.reduceNe, ↓reduceIte]
theorem IndexK_good {f : Nat} {caps : List AV} {p : ByteArray × ByteArray → Bool} (hp : ∀ o, Ans Try.prog f (.agg (encKind o) :: caps) (.bool (p o))) (l : List (ByteArray × ByteArray)) (h : l.length ≤ 1000000) :
    Ans Try.prog 84 [.sl (l.map encKind), .fn f caps] (.int .i64 (findIx p l 0)) := by
  refine good_run [(2, [4, 5, 9, 10, 11, 12, 13, 14, 15, 16, 17, 18], [])] mixed Try.func84 rfl Try.ntmps84 (rs := [.tmp 4]) rfl (by decide +kernel) (by kernel_rfl) rfl ?_
  rw [startE_eq 19 _ _ _ rfl rfl]
  set_option maxRecDepth 100000 in simp (maxSteps := 10000000) only [go_sem, Nat.reduceAdd, Nat.reduceSub, Nat.reduceMul, Nat.reduceLT, Nat.reduceLeDiff, Nat.reduceEqDiff, Nat.reduceMod, Nat.reduceDiv, Int.reduceNeg, Int.reduceLE, Int.reduceLT, Int.reduceToNat, Int.reduceEq, Int.reduceNe, ↓reduceIte]
  refine loop_by ([4, 5, 9, 10, 11, 12, 13, 14, 15, 16, 17, 18], []) (fun i : Nat => [(.s 8, .int .i64 (i : Int))]) (fun i => l.length - i) (fun i => i ≤ l.length ∧ findIx p l 0 = findIx p (l.drop i) i) 0 rfl ⟨Nat.zero_le _, rfl⟩ rfl ?_
  rintro c' st' hst i ⟨hi, hf⟩ ih
  set_option maxRecDepth 100000 in simp (maxSteps := 10000000) only [go_sem, Nat.reduceAdd, Nat.reduceSub, Nat.reduceMul, Nat.reduceLT, Nat.reduceLeDiff, Nat.reduceEqDiff, Nat.reduceMod, Nat.reduceDiv, Int.reduceNeg, Int.reduceLE, Int.reduceLT, Int.reduceToNat, Int.reduceEq, Int.reduceNe, ↓reduceIte]
  refine ifI (fun hlt => ?_) fun hlt => ?_
  · set_option maxRecDepth 100000 in simp (maxSteps := 10000000) only [go_sem, Nat.reduceAdd, Nat.reduceSub, Nat.reduceMul, Nat.reduceLT, Nat.reduceLeDiff, Nat.reduceEqDiff, Nat.reduceMod, Nat.reduceDiv, Int.reduceNeg, Int.reduceLE, Int.reduceLT, Int.reduceToNat, Int.reduceEq, Int.reduceNe, ↓reduceIte,  hlt]
    refine call_of (hp (nth l i)) ?_
    set_option maxRecDepth 100000 in simp (maxSteps := 10000000) only [go_sem, Nat.reduceAdd, Nat.reduceSub, Nat.reduceMul, Nat.reduceLT, Nat.reduceLeDiff, Nat.reduceEqDiff, Nat.reduceMod, Nat.reduceDiv, Int.reduceNeg, Int.reduceLE, Int.reduceLT, Int.reduceToNat, Int.reduceEq, Int.reduceNe, ↓reduceIte]
    refine ifI (fun hn => ?_) fun hn => ?_
    · set_option maxRecDepth 100000 in simp (maxSteps := 10000000) only [go_sem, Nat.reduceAdd, Nat.reduceSub, Nat.reduceMul, Nat.reduceLT, Nat.reduceLeDiff, Nat.reduceEqDiff, Nat.reduceMod, Nat.reduceDiv, Int.reduceNeg, Int.reduceLE, Int.reduceLT, Int.reduceToNat, Int.reduceEq, Int.reduceNe, ↓reduceIte]
      rw [hf, drop_nth hlt, findIx, if_pos hn]
    · set_option maxRecDepth 100000 in simp (maxSteps := 10000000) only [go_sem, Nat.reduceAdd, Nat.reduceSub, Nat.reduceMul, Nat.reduceLT, Nat.reduceLeDiff, Nat.reduceEqDiff, Nat.reduceMod, Nat.reduceDiv, Int.reduceNeg, Int.reduceLE, Int.reduceLT, Int.reduceToNat, Int.reduceEq, Int.reduceNe, ↓reduceIte]
      refine ih (i + 1) _ ⟨by omega, ?_⟩ (by omega) ?_
      · rw [hf, drop_nth hlt, findIx, if_neg hn]
      set_option maxRecDepth 100000 in simp (maxSteps := 10000000) only [go_sem, Nat.reduceAdd, Nat.reduceSub, Nat.reduceMul, Nat.reduceLT, Nat.reduceLeDiff, Nat.reduceEqDiff, Nat.reduceMod, Nat.reduceDiv, Int.reduceNeg, Int.reduceLE, Int.reduceLT, Int.reduceToNat, Int.reduceEq, Int.reduceNe, ↓reduceIte,  wrap_succ (show i < 9223372036854775807 by omega)]
  · subst hst
    set_option maxRecDepth 100000 in simp (maxSteps := 10000000) only [go_sem, Nat.reduceAdd, Nat.reduceSub, Nat.reduceMul, Nat.reduceLT, Nat.reduceLeDiff, Nat.reduceEqDiff, Nat.reduceMod, Nat.reduceDiv, Int.reduceNeg, Int.reduceLE, Int.reduceLT, Int.reduceToNat, Int.reduceEq, Int.reduceNe, ↓reduceIte]
    rw [hf, List.drop_eq_nil_of_le (by omega)]; rfl
def kindIx (s : ByteArray) : Int := findIx (fun o : ByteArray × ByteArray => decide (o.1 = s)) kinds 0
theorem TypeOf_good (s : ByteArray) : Ans Try.prog 41 [.str s] (.tup [.int .i64 (if 0 ≤ kindIx s then kindIx s else 0), .int .i64 (if 0 ≤ kindIx s then 0 else 7)]) := by
  have h1 := IndexK_good (k1_good s) kinds (by decide)
  have hk := kinds_good
  change Ans Try.prog 84 [.sl (kinds.map encKind), .fn 85 [.ptr [.str s]]] (.int .i64 (kindIx s)) at h1
  generalize kinds = K at *
  generalize kindIx s = F at *
  refine Classical.byCases (fun h : 0 ≤ F => ?_) fun h => ?_
  · rw [if_pos h, if_pos h]
    refine good_run [] mixed Try.func41 rfl Try.ntmps41 (rs := [.tmp 2, .tmp 3]) rfl (by decide +kernel) (by kernel_rfl) rfl ?_
    rw [startE_eq 11 _ _ _ rfl rfl]
    set_option maxRecDepth 100000 in simp (maxSteps := 10000000) only [go_sem, Nat.reduceAdd, Nat.reduceSub, Nat.reduceMul, Nat.reduceLT, Nat.reduceLeDiff, Nat.reduceEqDiff, Nat.reduceMod, Nat.reduceDiv, Int.reduceNeg, Int.reduceLE, Int.reduceLT, Int.reduceToNat, Int.reduceEq, Int.reduceNe, ↓reduceIte]
    refine call_of (hk) ?_
    set_option maxRecDepth 100000 in simp (maxSteps := 10000000) only [go_sem, Nat.reduceAdd, Nat.reduceSub, Nat.reduceMul, Nat.reduceLT, Nat.reduceLeDiff, Nat.reduceEqDiff, Nat.reduceMod, Nat.reduceDiv, Int.reduceNeg, Int.reduceLE, Int.reduceLT, Int.reduceToNat, Int.reduceEq, Int.reduceNe, ↓reduceIte]
    refine call_of (h1) ?_
    set_option maxRecDepth 100000 in simp (maxSteps := 10000000) only [go_sem, Nat.reduceAdd, Nat.reduceSub, Nat.reduceMul, Nat.reduceLT, Nat.reduceLeDiff, Nat.reduceEqDiff, Nat.reduceMod, Nat.reduceDiv, Int.reduceNeg, Int.reduceLE, Int.reduceLT, Int.reduceToNat, Int.reduceEq, Int.reduceNe, ↓reduceIte,  h, decide_true]
  · rw [if_neg h, if_neg h]
    refine good_run [] mixed Try.func41 rfl Try.ntmps41 (rs := [.tmp 2, .tmp 3]) rfl (by decide +kernel) (by kernel_rfl) rfl ?_
    rw [startE_eq 11 _ _ _ rfl rfl]
    set_option maxRecDepth 100000 in simp (maxSteps := 10000000) only [go_sem, Nat.reduceAdd, Nat.reduceSub, Nat.reduceMul, Nat.reduceLT, Nat.reduceLeDiff, Nat.reduceEqDiff, Nat.reduceMod, Nat.reduceDiv, Int.reduceNeg, Int.reduceLE, Int.reduceLT, Int.reduceToNat, Int.reduceEq, Int.reduceNe, ↓reduceIte]
    refine call_of (hk) ?_
    set_option maxRecDepth 100000 in simp (maxSteps := 10000000) only [go_sem, Nat.reduceAdd, Nat.reduceSub, Nat.reduceMul, Nat.reduceLT, Nat.reduceLeDiff, Nat.reduceEqDiff, Nat.reduceMod, Nat.reduceDiv, Int.reduceNeg, Int.reduceLE, Int.reduceLT, Int.reduceToNat, Int.reduceEq, Int.reduceNe, ↓reduceIte]
    refine call_of (h1) ?_
    set_option maxRecDepth 100000 in simp (maxSteps := 10000000) only [go_sem, Nat.reduceAdd, Nat.reduceSub, Nat.reduceMul, Nat.reduceLT, Nat.reduceLeDiff, Nat.reduceEqDiff, Nat.reduceMod, Nat.reduceDiv, Int.reduceNeg, Int.reduceLE, Int.reduceLT, Int.reduceToNat, Int.reduceEq, Int.reduceNe, ↓reduceIte,  h, decide_false]
theorem RefTypeOf_good (s : ByteArray) : Ans Try.prog 42 [.str s] (.int .i64 (kindIx s)) := by
  have hl : kinds.length = 30 := rfl
  refine good_run [(2, [2, 4, 5, 6, 7, 8, 9, 10, 11, 12], [])] mixed Try.func42 rfl Try.ntmps42 (rs := [.tmp 2]) rfl (by decide +kernel) (by kernel_rfl) rfl ?_
  rw [startE_eq 13 _ _ _ rfl rfl]
  set_option maxRecDepth 100000 in simp (maxSteps := 10000000) only [go_sem, Nat.reduceAdd, Nat.reduceSub, Nat.reduceMul, Nat.reduceLT, Nat.reduceLeDiff, Nat.reduceEqDiff, Nat.reduceMod, Nat.reduceDiv, Int.reduceNeg, Int.reduceLE, Int.reduceLT, Int.reduceToNat, Int.reduceEq, Int.reduceNe, ↓reduceIte]
  refine loop_by ([2, 4, 5, 6, 7, 8, 9, 10, 11, 12], []) (fun i : Nat => [(.s 3, .int .i64 (i : Int))]) (fun i => 30 - i) (fun i => i ≤ 30 ∧ kindIx s = findIx (fun o : ByteArray × ByteArray => decide (o.1 = s)) (kinds.drop i) i) 0 rfl ⟨Nat.zero_le _, rfl⟩ rfl ?_
  rintro c' st' hst i ⟨hi, hf⟩ ih
  set_option maxRecDepth 100000 in simp (maxSteps := 10000000) only [go_sem, Nat.reduceAdd, Nat.reduceSub, Nat.reduceMul, Nat.reduceLT, Nat.reduceLeDiff, Nat.reduceEqDiff, Nat.reduceMod, Nat.reduceDiv, Int.reduceNeg, Int.reduceLE, Int.reduceLT, Int.reduceToNat, Int.reduceEq, Int.reduceNe, ↓reduceIte]
  refine ifI (fun hlt => ?_) fun hlt => ?_
  · have hlt' : i < 30 := by omega
    have nm := NameOfType_good i hlt'
    set_option maxRecDepth 100000 in simp (maxSteps := 10000000) only [go_sem, Nat.reduceAdd, Nat.reduceSub, Nat.reduceMul, Nat.reduceLT, Nat.reduceLeDiff, Nat.reduceEqDiff, Nat.reduceMod, Nat.reduceDiv, Int.reduceNeg, Int.reduceLE, Int.reduceLT, Int.reduceToNat, Int.reduceEq, Int.reduceNe, ↓reduceIte]
    refine call_of (nm) ?_
    set_option maxRecDepth 100000 in simp (maxSteps := 10000000) only [go_sem, Nat.reduceAdd, Nat.reduceSub, Nat.reduceMul, Nat.reduceLT, Nat.reduceLeDiff, Nat.reduceEqDiff, Nat.reduceMod, Nat.reduceDiv, Int.reduceNeg, Int.reduceLE, Int.reduceLT, Int.reduceToNat, Int.reduceEq, Int.reduceNe, ↓reduceIte]
    refine ifI (fun hn => ?_) fun hn => ?_
    · set_option maxRecDepth 100000 in simp (maxSteps := 10000000) only [go_sem, Nat.reduceAdd, Nat.reduceSub, Nat.reduceMul, Nat.reduceLT, Nat.reduceLeDiff, Nat.reduceEqDiff, Nat.reduceMod, Nat.reduceDiv, Int.reduceNeg, Int.reduceLE, Int.reduceLT, Int.reduceToNat, Int.reduceEq, Int.reduceNe, ↓reduceIte]
      rw [hf, drop_nth (by omega), findIx, if_pos (by simpa using hn)]
    · set_option maxRecDepth 100000 in simp (maxSteps := 10000000) only [go_sem, Nat.reduceAdd, Nat.reduceSub, Nat.reduceMul, Nat.reduceLT, Nat.reduceLeDiff, Nat.reduceEqDiff, Nat.reduceMod, Nat.reduceDiv, Int.reduceNeg, Int.reduceLE, Int.reduceLT, Int.reduceToNat, Int.reduceEq, Int.reduceNe, ↓reduceIte]
      refine ih (i + 1) _ ⟨by omega, ?_⟩ (by omega) ?_
      · rw [hf, drop_nth (by omega), findIx, if_neg (by simpa using hn)]
      set_option maxRecDepth 100000 in simp (maxSteps := 10000000) only [go_sem, Nat.reduceAdd, Nat.reduceSub, Nat.reduceMul, Nat.reduceLT, Nat.reduceLeDiff, Nat.reduceEqDiff, Nat.reduceMod, Nat.reduceDiv, Int.reduceNeg, Int.reduceLE, Int.reduceLT, Int.reduceToNat, Int.reduceEq, Int.reduceNe, ↓reduceIte,  wrap_succ (show i < 9223372036854775807 by omega)]
  · subst hst
    set_option maxRecDepth 100000 in simp (maxSteps := 10000000) only [go_sem, Nat.reduceAdd, Nat.reduceSub, Nat.reduceMul, Nat.reduceLT, Nat.reduceLeDiff, Nat.reduceEqDiff, Nat.reduceMod, Nat.reduceDiv, Int.reduceNeg, Int.reduceLE, Int.reduceLT, Int.reduceToNat, Int.reduceEq, Int.reduceNe, ↓reduceIte]
    rw [hf, List.drop_eq_nil_of_le (by omega)]; rfl
end Go.Proofs.Ytcmnbfpcomcejaa.C08
