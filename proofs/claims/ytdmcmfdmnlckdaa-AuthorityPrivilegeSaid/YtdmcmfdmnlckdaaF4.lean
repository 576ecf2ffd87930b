/- Chapter 10: names of objects, compared. -/
import Derived.Test.YtdmcmfdmnlckdaaF3
import Derived.Shelf.Small.Strs
namespace Go.Proofs.Ytdmcmfdmnlckdaa.C10
open Go Go.Proofs Go.Proofs.Ytdmcmfdmnlckdaa.Ab
set_option linter.unusedSimpArgs false
attribute [local congr] ite_ctx

def ren : Go.Shelf.Ren := { f := fun n => if n = 106 then 107 else if n = 213 then 123 else 129, t := fun n => n, g := fun n => n }
theorem lays : Lays.n106 Try.prog ren where
  mixed := mixed
  f106 := by kernel_rfl
  f213 := by kernel_rfl
  f265 := by kernel_rfl
  t3 := by kernel_rfl
  a3 := fun w => by kernel_rfl
  z3 := fun w => by kernel_rfl
  v3 := fun w => by kernel_rfl
  t9 := by kernel_rfl
  a9 := fun w => by kernel_rfl
  z9 := fun w => by kernel_rfl
  v9 := fun w => by kernel_rfl

theorem Compare_good (a b : ByteArray) : Ans Try.prog 107 [.str a, .str b] (.int .i64 (Lib.compareBytes a.data.toList b.data.toList)) := by
  refine ⟨by kernel_rfl, rfl, fun w Pr vs hsz hvs hpr => ?_⟩
  have h : vs = #[.string a, .string b] := by
    match vs, hsz with
    | ⟨[x, y]⟩, _ =>
      have h0 := hvs 0 _ _ rfl rfl
      have h1 := hvs 1 _ _ rfl rfl
      cases h0; cases h1; rfl
  subst h
  refine (Any.strings_Compare lays a b w).mono fun e w' ⟨he, hw⟩ => ?_
  subst hw
  exact ⟨_, Pr, he, .int _ _, fun _ _ h => h, fun _ _ _ h => h, hpr, BelowD.refl _⟩

def qsys : ByteArray := ⟨#[81, 83, 89, 83]⟩
def clash (n : OName) : Bool := (isSys n.type && decide (¬ n.lib = qsys)) || (decide (n.type = 0) && decide (n.name = qsys))
def errName (n : OName) : Int := if inB n.type 0 29 = false then 4 else if isNm n.lib = false then 7 else if isNm n.name = false then 7 else if clash n = true then 15 else 0
theorem CheckName_good (n : OName) : Ans Try.prog 95 [.agg (encOName n)] (.int .i64 (errName n)) := by
  refine good_run [(1000022, [3, 25], [22, 23, 24]), (1000030, [3, 33], [30, 31, 32])] mixed Try.func95 rfl Try.ntmps95 (rs := [.tmp 2]) rfl (by decide +kernel) (by kernel_rfl) rfl ?_
  rw [startE_eq 34 _ _ _ rfl rfl]
  set_option maxRecDepth 100000 in simp (contextual := true) (maxSteps := 10000000) only [go_sem, ifP_eq, Nat.reduceAdd, Nat.reduceSub, Nat.reduceMul, Nat.reduceLT, Nat.reduceLeDiff, Nat.reduceEqDiff, Nat.reduceMod, Nat.reduceDiv, Int.reduceNeg, Int.reduceLE, Int.reduceLT, Int.reduceToNat, Int.reduceEq, Int.reduceNe, ↓reduceIte]
  refine call_of (isType_good _) ?_
  set_option maxRecDepth 100000 in simp (contextual := true) (maxSteps := 10000000) only [go_sem, ifP_eq, Nat.reduceAdd, Nat.reduceSub, Nat.reduceMul, Nat.reduceLT, Nat.reduceLeDiff, Nat.reduceEqDiff, Nat.reduceMod, Nat.reduceDiv, Int.reduceNeg, Int.reduceLE, Int.reduceLT, Int.reduceToNat, Int.reduceEq, Int.reduceNe, ↓reduceIte]
  refine iteI (fun h1 => ?_) fun h1 => ?_
  · simp only [Bool.not_eq_true'] at h1; rw [errName, if_pos h1]
  refine call_of (isName_good _) ?_
  set_option maxRecDepth 100000 in simp (contextual := true) (maxSteps := 10000000) only [go_sem, ifP_eq, Nat.reduceAdd, Nat.reduceSub, Nat.reduceMul, Nat.reduceLT, Nat.reduceLeDiff, Nat.reduceEqDiff, Nat.reduceMod, Nat.reduceDiv, Int.reduceNeg, Int.reduceLE, Int.reduceLT, Int.reduceToNat, Int.reduceEq, Int.reduceNe, ↓reduceIte]
  simp only [Bool.not_eq_true', Bool.not_eq_false] at h1
  refine iteI (fun h2 => ?_) fun h2 => ?_
  · simp only [Bool.not_eq_true'] at h2; rw [errName, if_neg (by simp [h1]), if_pos h2]
  simp only [Bool.not_eq_true', Bool.not_eq_false] at h2
  refine call_of (isName_good _) ?_
  set_option maxRecDepth 100000 in simp (contextual := true) (maxSteps := 10000000) only [go_sem, ifP_eq, Nat.reduceAdd, Nat.reduceSub, Nat.reduceMul, Nat.reduceLT, Nat.reduceLeDiff, Nat.reduceEqDiff, Nat.reduceMod, Nat.reduceDiv, Int.reduceNeg, Int.reduceLE, Int.reduceLT, Int.reduceToNat, Int.reduceEq, Int.reduceNe, ↓reduceIte]
  refine iteI (fun h3 => ?_) fun h3 => ?_
  · simp only [Bool.not_eq_true'] at h3; rw [errName, if_neg (by simp [h1]), if_neg (by simp [h2]), if_pos h3]
  simp only [Bool.not_eq_true', Bool.not_eq_false] at h3
  refine call_of (isSystem_good _) ?_
  set_option maxRecDepth 100000 in simp (contextual := true) (maxSteps := 10000000) only [go_sem, ifP_eq, Nat.reduceAdd, Nat.reduceSub, Nat.reduceMul, Nat.reduceLT, Nat.reduceLeDiff, Nat.reduceEqDiff, Nat.reduceMod, Nat.reduceDiv, Int.reduceNeg, Int.reduceLE, Int.reduceLT, Int.reduceToNat, Int.reduceEq, Int.reduceNe, ↓reduceIte]
  apply join_of
  · set_option maxRecDepth 100000 in simp (contextual := true) (maxSteps := 10000000) only [go_sem, ifP_eq, Nat.reduceAdd, Nat.reduceSub, Nat.reduceMul, Nat.reduceLT, Nat.reduceLeDiff, Nat.reduceEqDiff, Nat.reduceMod, Nat.reduceDiv, Int.reduceNeg, Int.reduceLE, Int.reduceLT, Int.reduceToNat, Int.reduceEq, Int.reduceNe, ↓reduceIte]
    exact joinB
  set_option maxRecDepth 100000 in simp (contextual := true) (maxSteps := 10000000) only [go_sem, ifP_eq, Nat.reduceAdd, Nat.reduceSub, Nat.reduceMul, Nat.reduceLT, Nat.reduceLeDiff, Nat.reduceEqDiff, Nat.reduceMod, Nat.reduceDiv, Int.reduceNeg, Int.reduceLE, Int.reduceLT, Int.reduceToNat, Int.reduceEq, Int.reduceNe, ↓reduceIte]
  refine iteI (fun h4 => ?_) fun h4 => ?_
  · rw [errName, if_neg (by simp [h1]), if_neg (by simp [h2]), if_neg (by simp [h3]), if_pos (by simp at h4; simp [clash, qsys, h4])]
  apply join_of
  · set_option maxRecDepth 100000 in simp (contextual := true) (maxSteps := 10000000) only [go_sem, ifP_eq, Nat.reduceAdd, Nat.reduceSub, Nat.reduceMul, Nat.reduceLT, Nat.reduceLeDiff, Nat.reduceEqDiff, Nat.reduceMod, Nat.reduceDiv, Int.reduceNeg, Int.reduceLE, Int.reduceLT, Int.reduceToNat, Int.reduceEq, Int.reduceNe, ↓reduceIte]
    exact joinB
  set_option maxRecDepth 100000 in simp (contextual := true) (maxSteps := 10000000) only [go_sem, ifP_eq, Nat.reduceAdd, Nat.reduceSub, Nat.reduceMul, Nat.reduceLT, Nat.reduceLeDiff, Nat.reduceEqDiff, Nat.reduceMod, Nat.reduceDiv, Int.reduceNeg, Int.reduceLE, Int.reduceLT, Int.reduceToNat, Int.reduceEq, Int.reduceNe, ↓reduceIte]
  refine iteI (fun h5 => ?_) fun h5 => ?_
  · rw [errName, if_neg (by simp [h1]), if_neg (by simp [h2]), if_neg (by simp [h3]), if_pos (by simp at h5; simp [clash, qsys, h5])]
  · rw [errName, if_neg (by simp [h1]), if_neg (by simp [h2]), if_neg (by simp [h3]), if_neg (by clear h1 h2 h3; simp only [clash, qsys]; simp_all)]
theorem NameErr_good (n : OName) : Ans Try.prog 99 [.agg (encOName n)] (.int .i64 (errName n)) := by
  refine good_run [(1000014, [4, 18], [14, 15, 16, 17]), (1000024, [3, 27], [24, 25, 26]), (1000029, [8, 37], [29, 30, 31, 32, 33, 34, 35, 36])] mixed Try.func99 rfl Try.ntmps99 (rs := [.tmp 2]) rfl (by decide +kernel) (by kernel_rfl) rfl ?_
  rw [startE_eq 38 _ _ _ rfl rfl]
  set_option maxRecDepth 100000 in simp (contextual := true) (maxSteps := 10000000) only [go_sem, ifP_eq, Nat.reduceAdd, Nat.reduceSub, Nat.reduceMul, Nat.reduceLT, Nat.reduceLeDiff, Nat.reduceEqDiff, Nat.reduceMod, Nat.reduceDiv, Int.reduceNeg, Int.reduceLE, Int.reduceLT, Int.reduceToNat, Int.reduceEq, Int.reduceNe, ↓reduceIte]
  refine call_of (IsType_good _) ?_
  set_option maxRecDepth 100000 in simp (contextual := true) (maxSteps := 10000000) only [go_sem, ifP_eq, Nat.reduceAdd, Nat.reduceSub, Nat.reduceMul, Nat.reduceLT, Nat.reduceLeDiff, Nat.reduceEqDiff, Nat.reduceMod, Nat.reduceDiv, Int.reduceNeg, Int.reduceLE, Int.reduceLT, Int.reduceToNat, Int.reduceEq, Int.reduceNe, ↓reduceIte]
  refine iteI (fun h1 => ?_) fun h1 => ?_
  · simp only [Bool.not_eq_true'] at h1; rw [errName, if_pos h1]
  refine call_of (IsName_good _) ?_
  set_option maxRecDepth 100000 in simp (contextual := true) (maxSteps := 10000000) only [go_sem, ifP_eq, Nat.reduceAdd, Nat.reduceSub, Nat.reduceMul, Nat.reduceLT, Nat.reduceLeDiff, Nat.reduceEqDiff, Nat.reduceMod, Nat.reduceDiv, Int.reduceNeg, Int.reduceLE, Int.reduceLT, Int.reduceToNat, Int.reduceEq, Int.reduceNe, ↓reduceIte]
  simp only [Bool.not_eq_true', Bool.not_eq_false] at h1
  refine join_of (!isNm n.lib || !isNm n.name) ?_ ?_
  · set_option maxRecDepth 100000 in simp (contextual := true) (maxSteps := 10000000) only [go_sem, ifP_eq, Nat.reduceAdd, Nat.reduceSub, Nat.reduceMul, Nat.reduceLT, Nat.reduceLeDiff, Nat.reduceEqDiff, Nat.reduceMod, Nat.reduceDiv, Int.reduceNeg, Int.reduceLE, Int.reduceLT, Int.reduceToNat, Int.reduceEq, Int.reduceNe, ↓reduceIte]
    refine iteI (fun h2 => call_of (IsName_good _) ?_) fun h2 => ?_
    · set_option maxRecDepth 100000 in simp (contextual := true) (maxSteps := 10000000) only [go_sem, ifP_eq, Nat.reduceAdd, Nat.reduceSub, Nat.reduceMul, Nat.reduceLT, Nat.reduceLeDiff, Nat.reduceEqDiff, Nat.reduceMod, Nat.reduceDiv, Int.reduceNeg, Int.reduceLE, Int.reduceLT, Int.reduceToNat, Int.reduceEq, Int.reduceNe, ↓reduceIte]
      try simp [h2]
    · simp [h2]
  set_option maxRecDepth 100000 in simp (contextual := true) (maxSteps := 10000000) only [go_sem, ifP_eq, Nat.reduceAdd, Nat.reduceSub, Nat.reduceMul, Nat.reduceLT, Nat.reduceLeDiff, Nat.reduceEqDiff, Nat.reduceMod, Nat.reduceDiv, Int.reduceNeg, Int.reduceLE, Int.reduceLT, Int.reduceToNat, Int.reduceEq, Int.reduceNe, ↓reduceIte]
  refine iteI (fun h2 => ?_) fun h2 => ?_
  · rw [errName, if_neg (by simp [h1])]
    split
    · rfl
    · rw [if_pos (by simp_all)]
  simp only [Bool.or_eq_true, Bool.not_eq_true', not_or, Bool.not_eq_false] at h2
  refine call_of (IsSystem_good _) ?_
  set_option maxRecDepth 100000 in simp (contextual := true) (maxSteps := 10000000) only [go_sem, ifP_eq, Nat.reduceAdd, Nat.reduceSub, Nat.reduceMul, Nat.reduceLT, Nat.reduceLeDiff, Nat.reduceEqDiff, Nat.reduceMod, Nat.reduceDiv, Int.reduceNeg, Int.reduceLE, Int.reduceLT, Int.reduceToNat, Int.reduceEq, Int.reduceNe, ↓reduceIte]
  apply join_of
  · set_option maxRecDepth 100000 in simp (contextual := true) (maxSteps := 10000000) only [go_sem, ifP_eq, Nat.reduceAdd, Nat.reduceSub, Nat.reduceMul, Nat.reduceLT, Nat.reduceLeDiff, Nat.reduceEqDiff, Nat.reduceMod, Nat.reduceDiv, Int.reduceNeg, Int.reduceLE, Int.reduceLT, Int.reduceToNat, Int.reduceEq, Int.reduceNe, ↓reduceIte]
    exact joinB
  set_option maxRecDepth 100000 in simp (contextual := true) (maxSteps := 10000000) only [go_sem, ifP_eq, Nat.reduceAdd, Nat.reduceSub, Nat.reduceMul, Nat.reduceLT, Nat.reduceLeDiff, Nat.reduceEqDiff, Nat.reduceMod, Nat.reduceDiv, Int.reduceNeg, Int.reduceLE, Int.reduceLT, Int.reduceToNat, Int.reduceEq, Int.reduceNe, ↓reduceIte]
  refine join_of (clash n) ?_ ?_
  · set_option maxRecDepth 100000 in simp (contextual := true) (maxSteps := 10000000) only [go_sem, ifP_eq, Nat.reduceAdd, Nat.reduceSub, Nat.reduceMul, Nat.reduceLT, Nat.reduceLeDiff, Nat.reduceEqDiff, Nat.reduceMod, Nat.reduceDiv, Int.reduceNeg, Int.reduceLE, Int.reduceLT, Int.reduceToNat, Int.reduceEq, Int.reduceNe, ↓reduceIte]
    clear h1 h2
    refine iteI (fun h1 => iteI (fun h2 => ?_) fun h2 => ?_) fun h1 => ?_ <;> simp_all [clash, qsys] <;> cases hs : isSys 0 <;> simp_all <;> exact decide_eq_decide.2 Iff.rfl
  · set_option maxRecDepth 100000 in simp (contextual := true) (maxSteps := 10000000) only [go_sem, ifP_eq, Nat.reduceAdd, Nat.reduceSub, Nat.reduceMul, Nat.reduceLT, Nat.reduceLeDiff, Nat.reduceEqDiff, Nat.reduceMod, Nat.reduceDiv, Int.reduceNeg, Int.reduceLE, Int.reduceLT, Int.reduceToNat, Int.reduceEq, Int.reduceNe, ↓reduceIte]
    have hb : errName n = if clash n = true then 15 else 0 := by
      rw [errName, if_neg (by simp [h1]), if_neg (by simp [h2]), if_neg (by simp [h2])]
    rw [hb]
    split <;> rfl
theorem isName10_good (s : ByteArray) : Ans Try.prog 90 [.str s] (.bool (isNm s)) := by
  refine good_run [] mixed Try.func90 rfl Try.ntmps90 (rs := [.tmp 2]) rfl (by decide +kernel) (by kernel_rfl) rfl ?_
  rw [startE_eq 7 _ _ _ rfl rfl]
  set_option maxRecDepth 100000 in simp (contextual := true) (maxSteps := 10000000) only [go_sem, ifP_eq, Nat.reduceAdd, Nat.reduceSub, Nat.reduceMul, Nat.reduceLT, Nat.reduceLeDiff, Nat.reduceEqDiff, Nat.reduceMod, Nat.reduceDiv, Int.reduceNeg, Int.reduceLE, Int.reduceLT, Int.reduceToNat, Int.reduceEq, Int.reduceNe, ↓reduceIte]
  refine call_of (CheckName_good ⟨qsys, s, 5⟩) ?_
  set_option maxRecDepth 100000 in simp (contextual := true) (maxSteps := 10000000) only [go_sem, ifP_eq, Nat.reduceAdd, Nat.reduceSub, Nat.reduceMul, Nat.reduceLT, Nat.reduceLeDiff, Nat.reduceEqDiff, Nat.reduceMod, Nat.reduceDiv, Int.reduceNeg, Int.reduceLE, Int.reduceLT, Int.reduceToNat, Int.reduceEq, Int.reduceNe, ↓reduceIte]
  have h1 : isNm qsys = true := by decide +kernel
  have h2 : isSys 5 = true := by decide +kernel
  simp [errName, inB, h1, clash, h2]

theorem cmpB_lt : ∀ (a b : List UInt8), (Lib.compareBytes a b < 0) ↔ Go.Op.bytesLess a b = true
  | [], [] => by simp [Lib.compareBytes, Go.Op.bytesLess]
  | [], _ :: _ => by simp [Lib.compareBytes, Go.Op.bytesLess]
  | _ :: _, [] => by simp [Lib.compareBytes, Go.Op.bytesLess]
  | a :: x, b :: y => by
    have ih := cmpB_lt x y
    simp only [Lib.compareBytes, Go.Op.bytesLess, Bool.or_eq_true, decide_eq_true_eq, Bool.and_eq_true, beq_iff_eq]
    split
    · simp_all
    · split
      · rename_i h1 h2
        constructor
        · intro h; omega
        · rintro (h | ⟨h, -⟩)
          · exact absurd h h1
          · subst h; exact absurd h2 h1
      · rename_i h1 h2
        have : a = b := UInt8.le_antisymm (UInt8.not_lt.1 h2) (UInt8.not_lt.1 h1)
        simp [this, ih]
theorem cmpB_eq : ∀ (a b : List UInt8), (Lib.compareBytes a b = 0) ↔ a = b
  | [], [] => by simp [Lib.compareBytes]
  | [], _ :: _ => by simp [Lib.compareBytes]
  | _ :: _, [] => by simp [Lib.compareBytes]
  | a :: x, b :: y => by
    have ih := cmpB_eq x y
    simp only [Lib.compareBytes, List.cons.injEq]
    split
    · rename_i h; constructor
      · intro h; omega
      · rintro ⟨rfl, -⟩; exact absurd h (UInt8.lt_irrefl _)
    · split
      · rename_i h; constructor
        · intro h; omega
        · rintro ⟨rfl, -⟩; exact absurd h (UInt8.lt_irrefl _)
      · rename_i h1 h2
        have : a = b := UInt8.le_antisymm (UInt8.not_lt.1 h2) (UInt8.not_lt.1 h1)
        simp [this, ih]
theorem isNaN_good (n : Int) : Ans Try.prog 126 [.int .i64 n] (.bool false) := by
  refine good_run [] mixed Try.func126 rfl Try.ntmps126 (rs := [.tmp 2]) rfl (by decide +kernel) (by kernel_rfl) rfl ?_
  rw [startE_eq 6 _ _ _ rfl rfl]
  set_option maxRecDepth 100000 in simp (contextual := true) (maxSteps := 10000000) only [go_sem, ifP_eq, Nat.reduceAdd, Nat.reduceSub, Nat.reduceMul, Nat.reduceLT, Nat.reduceLeDiff, Nat.reduceEqDiff, Nat.reduceMod, Nat.reduceDiv, Int.reduceNeg, Int.reduceLE, Int.reduceLT, Int.reduceToNat, Int.reduceEq, Int.reduceNe, ↓reduceIte]
def cmpI (a b : Int) : Int := if a < b then -1 else if b < a then 1 else 0
theorem cmpI_good (a b : Int) : Ans Try.prog 115 [.int .i64 a, .int .i64 b] (.int .i64 (cmpI a b)) := by
  refine good_run [] mixed Try.func115 rfl Try.ntmps115 (rs := [.tmp 4]) rfl (by decide +kernel) (by kernel_rfl) rfl ?_
  rw [startE_eq 20 _ _ _ rfl rfl]
  set_option maxRecDepth 100000 in simp (contextual := true) (maxSteps := 10000000) only [go_sem, ifP_eq, Nat.reduceAdd, Nat.reduceSub, Nat.reduceMul, Nat.reduceLT, Nat.reduceLeDiff, Nat.reduceEqDiff, Nat.reduceMod, Nat.reduceDiv, Int.reduceNeg, Int.reduceLE, Int.reduceLT, Int.reduceToNat, Int.reduceEq, Int.reduceNe, ↓reduceIte]
  refine call_of (isNaN_good _) ?_
  set_option maxRecDepth 100000 in simp (contextual := true) (maxSteps := 10000000) only [go_sem, ifP_eq, Nat.reduceAdd, Nat.reduceSub, Nat.reduceMul, Nat.reduceLT, Nat.reduceLeDiff, Nat.reduceEqDiff, Nat.reduceMod, Nat.reduceDiv, Int.reduceNeg, Int.reduceLE, Int.reduceLT, Int.reduceToNat, Int.reduceEq, Int.reduceNe, ↓reduceIte]
  refine call_of (isNaN_good _) ?_
  set_option maxRecDepth 100000 in simp (contextual := true) (maxSteps := 10000000) only [go_sem, ifP_eq, Nat.reduceAdd, Nat.reduceSub, Nat.reduceMul, Nat.reduceLT, Nat.reduceLeDiff, Nat.reduceEqDiff, Nat.reduceMod, Nat.reduceDiv, Int.reduceNeg, Int.reduceLE, Int.reduceLT, Int.reduceToNat, Int.reduceEq, Int.reduceNe, ↓reduceIte]
  unfold cmpI
  split
  · rfl
  · split <;> rfl
theorem OrI_good (l : List Int) (h : l.length ≤ 1000000) : Ans Try.prog 114 [.sl (l.map encInt)] (.int .i64 (firstE l)) := by
  refine good_run [(3, [2, 5, 9, 10, 11, 12, 13, 14, 15, 16], [])] mixed Try.func114 rfl Try.ntmps114 (rs := [.tmp 2]) rfl (by decide +kernel) (by kernel_rfl) rfl ?_
  rw [startE_eq 18 _ _ _ rfl rfl]
  set_option maxRecDepth 100000 in simp (contextual := true) (maxSteps := 10000000) only [go_sem, ifP_eq, Nat.reduceAdd, Nat.reduceSub, Nat.reduceMul, Nat.reduceLT, Nat.reduceLeDiff, Nat.reduceEqDiff, Nat.reduceMod, Nat.reduceDiv, Int.reduceNeg, Int.reduceLE, Int.reduceLT, Int.reduceToNat, Int.reduceEq, Int.reduceNe, ↓reduceIte]
  refine loop_by ([2, 5, 9, 10, 11, 12, 13, 14, 15, 16], []) (fun i : Nat => [(.s 8, .int .i64 (i : Int))]) (fun i => l.length - i) (fun i => i ≤ l.length ∧ firstE l = firstE (l.drop i)) 0 rfl ⟨Nat.zero_le _, rfl⟩ rfl ?_
  rintro c' st' hst i ⟨hi, hf⟩ ih
  set_option maxRecDepth 100000 in simp (contextual := true) (maxSteps := 10000000) only [go_sem, ifP_eq, Nat.reduceAdd, Nat.reduceSub, Nat.reduceMul, Nat.reduceLT, Nat.reduceLeDiff, Nat.reduceEqDiff, Nat.reduceMod, Nat.reduceDiv, Int.reduceNeg, Int.reduceLE, Int.reduceLT, Int.reduceToNat, Int.reduceEq, Int.reduceNe, ↓reduceIte]
  refine iteI (fun hlt => iteI (fun hn => ?_) fun hn => ih (i + 1) _ ⟨by omega, ?_⟩ (by omega) ?_) fun hlt => ?_
  · rw [hf, drop_nth hlt, firstE, if_neg hn]
  · rw [hf, drop_nth hlt, firstE, if_pos (by omega)]
  · set_option maxRecDepth 100000 in simp (contextual := true) (maxSteps := 10000000) only [go_sem, ifP_eq, Nat.reduceAdd, Nat.reduceSub, Nat.reduceMul, Nat.reduceLT, Nat.reduceLeDiff, Nat.reduceEqDiff, Nat.reduceMod, Nat.reduceDiv, Int.reduceNeg, Int.reduceLE, Int.reduceLT, Int.reduceToNat, Int.reduceEq, Int.reduceNe, ↓reduceIte,  wrap_succ (show i < 9223372036854775807 by omega)]
  · subst hst
    set_option maxRecDepth 100000 in simp (contextual := true) (maxSteps := 10000000) only [go_sem, ifP_eq, Nat.reduceAdd, Nat.reduceSub, Nat.reduceMul, Nat.reduceLT, Nat.reduceLeDiff, Nat.reduceEqDiff, Nat.reduceMod, Nat.reduceDiv, Int.reduceNeg, Int.reduceLE, Int.reduceLT, Int.reduceToNat, Int.reduceEq, Int.reduceNe, ↓reduceIte]
    rw [hf, List.drop_eq_nil_of_le (by omega)]; rfl
def sLt (a b : ByteArray) : Bool := Go.Op.bytesLess a.toList b.toList
def nLt (a b : OName) : Bool := if a.lib ≠ b.lib then sLt a.lib b.lib else if a.name ≠ b.name then sLt a.name b.name else decide (a.type < b.type)
theorem Less_good (a b : OName) : Ans Try.prog 100 [.agg (encOName a), .agg (encOName b)] (.bool (nLt a b)) := by
  refine good_run [] mixed Try.func100 rfl Try.ntmps100 (rs := [.tmp 4]) rfl (by decide +kernel) (by kernel_rfl) rfl ?_
  rw [startE_eq 30 _ _ _ rfl rfl]
  set_option maxRecDepth 100000 in simp (contextual := true) (maxSteps := 10000000) only [go_sem, ifP_eq, Nat.reduceAdd, Nat.reduceSub, Nat.reduceMul, Nat.reduceLT, Nat.reduceLeDiff, Nat.reduceEqDiff, Nat.reduceMod, Nat.reduceDiv, Int.reduceNeg, Int.reduceLE, Int.reduceLT, Int.reduceToNat, Int.reduceEq, Int.reduceNe, ↓reduceIte]
  refine iteI (fun h1 => ?_) fun h1 => iteI (fun h2 => ?_) fun h2 => ?_
  · rw [nLt, if_pos h1]; rfl
  · rw [nLt, if_neg h1, if_pos h2]; rfl
  · rw [nLt, if_neg h1, if_neg h2]
def cmpN (a b : OName) : Int := firstE [Lib.compareBytes a.lib.data.toList b.lib.data.toList, Lib.compareBytes a.name.data.toList b.name.data.toList, cmpI a.type b.type]
theorem compare_good (a b : OName) : Ans Try.prog 94 [.agg (encOName a), .agg (encOName b)] (.int .i64 (cmpN a b)) := by
  refine good_run [] mixed Try.func94 rfl Try.ntmps94 (rs := [.tmp 4]) rfl (by decide +kernel) (by kernel_rfl) rfl ?_
  rw [startE_eq 22 _ _ _ rfl rfl]
  set_option maxRecDepth 100000 in simp (contextual := true) (maxSteps := 10000000) only [go_sem, ifP_eq, Nat.reduceAdd, Nat.reduceSub, Nat.reduceMul, Nat.reduceLT, Nat.reduceLeDiff, Nat.reduceEqDiff, Nat.reduceMod, Nat.reduceDiv, Int.reduceNeg, Int.reduceLE, Int.reduceLT, Int.reduceToNat, Int.reduceEq, Int.reduceNe, ↓reduceIte]
  refine callD_of (Compare_good _ _) ?_
  set_option maxRecDepth 100000 in simp (contextual := true) (maxSteps := 10000000) only [go_sem, ifP_eq, Nat.reduceAdd, Nat.reduceSub, Nat.reduceMul, Nat.reduceLT, Nat.reduceLeDiff, Nat.reduceEqDiff, Nat.reduceMod, Nat.reduceDiv, Int.reduceNeg, Int.reduceLE, Int.reduceLT, Int.reduceToNat, Int.reduceEq, Int.reduceNe, ↓reduceIte]
  refine callD_of (Compare_good _ _) ?_
  set_option maxRecDepth 100000 in simp (contextual := true) (maxSteps := 10000000) only [go_sem, ifP_eq, Nat.reduceAdd, Nat.reduceSub, Nat.reduceMul, Nat.reduceLT, Nat.reduceLeDiff, Nat.reduceEqDiff, Nat.reduceMod, Nat.reduceDiv, Int.reduceNeg, Int.reduceLE, Int.reduceLT, Int.reduceToNat, Int.reduceEq, Int.reduceNe, ↓reduceIte]
  refine callD_of (cmpI_good _ _) ?_
  set_option maxRecDepth 100000 in simp (contextual := true) (maxSteps := 10000000) only [go_sem, ifP_eq, Nat.reduceAdd, Nat.reduceSub, Nat.reduceMul, Nat.reduceLT, Nat.reduceLeDiff, Nat.reduceEqDiff, Nat.reduceMod, Nat.reduceDiv, Int.reduceNeg, Int.reduceLE, Int.reduceLT, Int.reduceToNat, Int.reduceEq, Int.reduceNe, ↓reduceIte]
  have ho := OrI_good [Lib.compareBytes a.lib.data.toList b.lib.data.toList, Lib.compareBytes a.name.data.toList b.name.data.toList, cmpI a.type b.type] (by simp)
  simp only [List.map_cons, List.map_nil, encInt] at ho
  refine callD_of ho ?_
  set_option maxRecDepth 100000 in simp (contextual := true) (maxSteps := 10000000) only [go_sem, ifP_eq, Nat.reduceAdd, Nat.reduceSub, Nat.reduceMul, Nat.reduceLT, Nat.reduceLeDiff, Nat.reduceEqDiff, Nat.reduceMod, Nat.reduceDiv, Int.reduceNeg, Int.reduceLE, Int.reduceLT, Int.reduceToNat, Int.reduceEq, Int.reduceNe, ↓reduceIte]
  exact ⟨by decide +kernel, rfl⟩
theorem cmpI_lt (a b : Int) : cmpI a b < 0 ↔ a < b := by
  unfold cmpI; split
  · simp [*]
  · split <;> simp [*]
theorem cmpN_lt (a b : OName) : decide (cmpN a b < 0) = nLt a b := by
  unfold cmpN nLt sLt
  simp only [firstE, cmpB_eq, ByteArray.toList_eq]
  have e : ∀ x y : ByteArray, x.data.toList = y.data.toList ↔ x = y := fun x y => ⟨WideShapes.bytes_inj, fun h => h ▸ rfl⟩
  simp only [e]
  by_cases h1 : a.lib = b.lib
  · rw [if_pos h1, if_neg (Classical.not_not.2 h1 : ¬ a.lib ≠ b.lib)]
    by_cases h2 : a.name = b.name
    · rw [if_pos h2, if_neg (Classical.not_not.2 h2 : ¬ a.name ≠ b.name)]
      split
      · rename_i h3
        unfold cmpI at h3
        split at h3
        · omega
        · simp; omega
      · simp [cmpI_lt]
    · rw [if_neg h2, if_pos h2, Bool.eq_iff_iff, decide_eq_true_eq, cmpB_lt]
  · rw [if_neg h1, if_pos h1, Bool.eq_iff_iff, decide_eq_true_eq, cmpB_lt]
end Go.Proofs.Ytdmcmfdmnlckdaa.C10
