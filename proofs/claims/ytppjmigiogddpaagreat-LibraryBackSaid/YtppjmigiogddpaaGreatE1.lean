/- Chapter 9: strings: the special libraries, names, cuts. -/
import Derived.Test.YtppjmigiogddpaaGreatC10
namespace Go.Proofs.YtppjmigiogddpaaGreat.C08
open Go Go.Proofs Go.Proofs.YtppjmigiogddpaaGreat.Ab
set_option linter.unusedSimpArgs false
attribute [local congr] ite_ctx

def ren2 : Go.Shelf.Ren := { f := fun n => if n = 137 then 63 else if n = 217 then 100 else 130, t := fun n => n, g := fun n => n }
theorem lays2 : Lays.n137 Tryz.prog ren2 where
  mixed := mixed
  f137 := by kernel_rfl
  f217 := by kernel_rfl
  f266 := by kernel_rfl
  t3 := by kernel_rfl
  a3 := fun w => by kernel_rfl
  z3 := fun w => by kernel_rfl
  v3 := fun w => by kernel_rfl
  t5 := by kernel_rfl
  a5 := fun w => by kernel_rfl
  z5 := fun w => by kernel_rfl
  v5 := fun w => by kernel_rfl
  t9 := by kernel_rfl
  a9 := fun w => by kernel_rfl
  z9 := fun w => by kernel_rfl
  v9 := fun w => by kernel_rfl
theorem lays3 : Lays.n217 Tryz.prog ren2 := { lays2 with }

theorem IndexByte_good (a : ByteArray) (c : Int) : Ans Tryz.prog 63 [.str a, .int .u8 c] (.int .i64 (Lib.indexByte a.data.toList c.toNat.toUInt8)) := by
  refine ⟨by kernel_rfl, rfl, fun w Pr vs hsz hvs hpr => ?_⟩
  have h : vs = #[.string a, .int .u8 c] := by
    match vs, hsz with
    | ⟨[x, y]⟩, _ =>
      have h0 := hvs 0 _ _ rfl rfl
      have h1 := hvs 1 _ _ rfl rfl
      cases h0; cases h1; rfl
  subst h
  refine (Any.strings_IndexByte lays2 a c w).mono fun e w' ⟨he, hw⟩ => ?_
  subst hw
  exact ⟨_, Pr, he, .int _ _, fun _ _ h => h, fun _ _ _ h => h, hpr, BelowD.refl _⟩
theorem IndexByte2_good (a : ByteArray) (c : Int) : Ans Tryz.prog 100 [.str a, .int .u8 c] (.int .i64 (Lib.indexByte a.data.toList c.toNat.toUInt8)) := by
  refine ⟨by kernel_rfl, rfl, fun w Pr vs hsz hvs hpr => ?_⟩
  have h : vs = #[.string a, .int .u8 c] := by
    match vs, hsz with
    | ⟨[x, y]⟩, _ =>
      have h0 := hvs 0 _ _ rfl rfl
      have h1 := hvs 1 _ _ rfl rfl
      cases h0; cases h1; rfl
  subst h
  refine (Any.stringslite_IndexByte lays3 a c w).mono fun e w' ⟨he, hw⟩ => ?_
  subst hw
  exact ⟨_, Pr, he, .int _ _, fun _ _ h => h, fun _ _ _ h => h, hpr, BelowD.refl _⟩

/-- Where the first '/' stands; what stands before it, behind it. -/
def slash (s : ByteArray) : Int := Lib.indexByte s.data.toList 47
theorem indexByte_le (c : UInt8) : ∀ l : List UInt8, -1 ≤ Lib.indexByte l c ∧ Lib.indexByte l c < (l.length : Int)
  | [] => ⟨by rw [Lib.indexByte]; decide, by rw [Lib.indexByte]; decide⟩
  | b :: l => by
    have := indexByte_le c l
    rw [Lib.indexByte]
    rw [List.length_cons]
    split
    · omega
    · split <;> omega
theorem slash_le (s : ByteArray) : -1 ≤ slash s ∧ slash s < (s.size : Int) := indexByte_le 47 s.data.toList
theorem indexByte_take (c : UInt8) : ∀ (l : List UInt8) (k : Nat), Lib.indexByte (l.take k) c = if Lib.indexByte l c < (k : Int) then Lib.indexByte l c else -1
  | [], k => by rw [List.take_nil, Lib.indexByte, if_pos (by omega)]
  | b :: l, 0 => by
    have := indexByte_le c (b :: l)
    rw [List.take_zero]
    split
    · rw [show Lib.indexByte [] c = -1 from rfl]; omega
    · rfl
  | b :: l, k + 1 => by
    have h := indexByte_le c l
    rw [List.take_succ_cons, Lib.indexByte, Lib.indexByte, indexByte_take c l k]
    by_cases h1 : (b == c) = true
    · rw [if_pos h1, if_pos h1, if_pos (show (0 : Int) < ((k + 1 : Nat) : Int) by omega)]
    · rw [if_neg h1, if_neg h1]
      by_cases h2 : Lib.indexByte l c < (k : Int)
      · rw [if_pos h2]
        by_cases h3 : (Lib.indexByte l c == -1) = true
        · rw [if_pos h3, if_pos (by omega)]
        · rw [if_neg h3, if_pos (by omega)]
      · rw [if_neg h2, if_pos (by decide)]
        by_cases h3 : (Lib.indexByte l c == -1) = true
        · rw [beq_iff_eq] at h3; omega
        · rw [if_neg h3, if_neg (by omega)]
def sSlash : ByteArray := ⟨#[47]⟩
def sStar : ByteArray := ⟨#[42]⟩

theorem Index_good (s : ByteArray) : Ans Tryz.prog 131 [.str s, .str sSlash] (.int .i64 (slash s)) := by
  have h1 : (sSlash.size : Int) = 1 := rfl
  have h2 : sSlash.size = 1 := rfl
  have h3 : byteAt sSlash 0 = 47 := rfl
  refine Classical.byCases (fun h4 : sSlash = s => ?_) fun h4 => ?_
  · subst h4
    rw [show slash sSlash = 0 from by decide +kernel]
    refine good_run [(15, [4, 11, 12, 13, 57, 58, 59, 60, 61, 62, 63, 64, 65, 66, 67, 68, 69, 70, 71, 72, 73, 74, 75, 76, 77, 78, 79, 80, 81, 82, 83, 84, 85, 86, 87, 88, 89, 90, 91, 92, 93, 94, 95, 96, 97, 98, 99, 100, 101, 102, 103, 104, 105, 106, 107, 108, 109, 110, 111, 112, 113, 114, 115, 116, 117, 118, 119, 120, 121, 122, 123, 124, 125, 126, 127, 128, 129, 130, 131, 132, 133, 134, 135, 136, 137, 138, 139, 140, 141, 142], [])] mixed Tryz.func131 rfl Tryz.ntmps131 (rs := [.tmp 4]) rfl (by decide +kernel) (by kernel_rfl) rfl ?_
    rw [startE_eq 143 _ _ _ rfl rfl]
    set_option maxRecDepth 100000 in simp (maxSteps := 10000000) only [go_sem, Nat.reduceAdd, Nat.reduceSub, Nat.reduceMul, Nat.reduceLT, Nat.reduceLeDiff, Nat.reduceEqDiff, Nat.reduceMod, Nat.reduceDiv, Int.reduceNeg, Int.reduceLE, Int.reduceLT, Int.reduceToNat, Int.reduceEq, Int.reduceNe, ↓reduceIte,  h1, h2, h3, Int.reduceEq, decide_false]
  refine good_run [(15, [4, 11, 12, 13, 57, 58, 59, 60, 61, 62, 63, 64, 65, 66, 67, 68, 69, 70, 71, 72, 73, 74, 75, 76, 77, 78, 79, 80, 81, 82, 83, 84, 85, 86, 87, 88, 89, 90, 91, 92, 93, 94, 95, 96, 97, 98, 99, 100, 101, 102, 103, 104, 105, 106, 107, 108, 109, 110, 111, 112, 113, 114, 115, 116, 117, 118, 119, 120, 121, 122, 123, 124, 125, 126, 127, 128, 129, 130, 131, 132, 133, 134, 135, 136, 137, 138, 139, 140, 141, 142], [])] mixed Tryz.func131 rfl Tryz.ntmps131 (rs := [.tmp 4]) rfl (by decide +kernel) (by kernel_rfl) rfl ?_
  rw [startE_eq 143 _ _ _ rfl rfl]
  set_option maxRecDepth 100000 in simp (maxSteps := 10000000) only [go_sem, Nat.reduceAdd, Nat.reduceSub, Nat.reduceMul, Nat.reduceLT, Nat.reduceLeDiff, Nat.reduceEqDiff, Nat.reduceMod, Nat.reduceDiv, Int.reduceNeg, Int.reduceLE, Int.reduceLT, Int.reduceToNat, Int.reduceEq, Int.reduceNe, ↓reduceIte,  h1, h2, h3, h4, Int.reduceEq, decide_false]
  refine call_of (IndexByte2_good s 47) ?_
  set_option maxRecDepth 100000 in simp (maxSteps := 10000000) only [go_sem, Nat.reduceAdd, Nat.reduceSub, Nat.reduceMul, Nat.reduceLT, Nat.reduceLeDiff, Nat.reduceEqDiff, Nat.reduceMod, Nat.reduceDiv, Int.reduceNeg, Int.reduceLE, Int.reduceLT, Int.reduceToNat, Int.reduceEq, Int.reduceNe, ↓reduceIte]
  rfl

def cutA (s : ByteArray) : ByteArray := if 0 ≤ slash s then s.extract 0 (slash s).toNat else s
def cutB (s : ByteArray) : ByteArray := if 0 ≤ slash s then s.extract ((slash s).toNat + 1) s.size else ⟨#[]⟩
def cutF (s : ByteArray) : Bool := decide (0 ≤ slash s)
theorem Cut1_good (s : ByteArray) (h : s.size ≤ 1000000) : Ans Tryz.prog 101 [.str s, .str sSlash] (.tup [.str (cutA s), .str (cutB s), .bool (cutF s)]) := by
  have hs := slash_le s
  refine Classical.byCases (fun h1 : 0 ≤ slash s => ?_) fun h1 => ?_
  · rw [cutA, cutB, cutF, if_pos h1, if_pos h1, decide_eq_true h1]
    have hi := Index_good s
    generalize slash s = x at *
    obtain ⟨i, rfl⟩ : ∃ i : Nat, x = (i : Int) := ⟨x.toNat, by omega⟩
    rw [Int.toNat_natCast]
    have e1 : (sSlash.size : Int) = 1 := rfl
    have e2 : (0 : Int) ≤ (i : Int) := by omega
    have e3 : (i : Int) ≤ (s.size : Int) := by omega
    have e4 : ((i + 1 : Nat) : Int) ≤ (s.size : Int) := by omega
    have e5 : (0 : Int) ≤ ((i + 1 : Nat) : Int) := by omega
    have e6 : ((i + 1 : Nat) : Int).toNat = i + 1 := Int.toNat_natCast _
    have _ := e1
    refine good_run [] mixed Tryz.func101 rfl Tryz.ntmps101 (rs := [.tmp 4, .tmp 5, .tmp 6]) rfl (by decide +kernel) (by kernel_rfl) rfl ?_
    rw [startE_eq 23 _ _ _ rfl rfl]
    set_option maxRecDepth 100000 in simp (maxSteps := 10000000) only [go_sem, Nat.reduceAdd, Nat.reduceSub, Nat.reduceMul, Nat.reduceLT, Nat.reduceLeDiff, Nat.reduceEqDiff, Nat.reduceMod, Nat.reduceDiv, Int.reduceNeg, Int.reduceLE, Int.reduceLT, Int.reduceToNat, Int.reduceEq, Int.reduceNe, ↓reduceIte]
    refine call_of (hi) ?_
    set_option maxRecDepth 100000 in simp (maxSteps := 10000000) only [go_sem, Nat.reduceAdd, Nat.reduceSub, Nat.reduceMul, Nat.reduceLT, Nat.reduceLeDiff, Nat.reduceEqDiff, Nat.reduceMod, Nat.reduceDiv, Int.reduceNeg, Int.reduceLE, Int.reduceLT, Int.reduceToNat, Int.reduceEq, Int.reduceNe, ↓reduceIte,  e1, e2, e3, e4, e5, e6, wrap_succ (show i < 9223372036854775807 by omega), Int.toNat_natCast, Int.le_refl, Int.toNat_zero, decide_true]
    decide +kernel
  · rw [cutA, cutB, cutF, if_neg h1, if_neg h1, decide_eq_false h1]
    refine good_run [] mixed Tryz.func101 rfl Tryz.ntmps101 (rs := [.tmp 4, .tmp 5, .tmp 6]) rfl (by decide +kernel) (by kernel_rfl) rfl ?_
    rw [startE_eq 23 _ _ _ rfl rfl]
    set_option maxRecDepth 100000 in simp (maxSteps := 10000000) only [go_sem, Nat.reduceAdd, Nat.reduceSub, Nat.reduceMul, Nat.reduceLT, Nat.reduceLeDiff, Nat.reduceEqDiff, Nat.reduceMod, Nat.reduceDiv, Int.reduceNeg, Int.reduceLE, Int.reduceLT, Int.reduceToNat, Int.reduceEq, Int.reduceNe, ↓reduceIte]
    refine call_of (Index_good s) ?_
    set_option maxRecDepth 100000 in simp (maxSteps := 10000000) only [go_sem, Nat.reduceAdd, Nat.reduceSub, Nat.reduceMul, Nat.reduceLT, Nat.reduceLeDiff, Nat.reduceEqDiff, Nat.reduceMod, Nat.reduceDiv, Int.reduceNeg, Int.reduceLE, Int.reduceLT, Int.reduceToNat, Int.reduceEq, Int.reduceNe, ↓reduceIte,  h1, decide_false]
theorem Cut_good (s : ByteArray) (h : s.size ≤ 1000000) : Ans Tryz.prog 64 [.str s, .str sSlash] (.tup [.str (cutA s), .str (cutB s), .bool (cutF s)]) := by
  refine good_run [] mixed Tryz.func64 rfl Tryz.ntmps64 (rs := [.tmp 4, .tmp 5, .tmp 6]) rfl (by decide +kernel) (by kernel_rfl) rfl ?_
  rw [startE_eq 13 _ _ _ rfl rfl]
  set_option maxRecDepth 100000 in simp (maxSteps := 10000000) only [go_sem, Nat.reduceAdd, Nat.reduceSub, Nat.reduceMul, Nat.reduceLT, Nat.reduceLeDiff, Nat.reduceEqDiff, Nat.reduceMod, Nat.reduceDiv, Int.reduceNeg, Int.reduceLE, Int.reduceLT, Int.reduceToNat, Int.reduceEq, Int.reduceNe, ↓reduceIte]
  refine call_of (Cut1_good s h) ?_
  set_option maxRecDepth 100000 in simp (maxSteps := 10000000) only [go_sem, Nat.reduceAdd, Nat.reduceSub, Nat.reduceMul, Nat.reduceLT, Nat.reduceLeDiff, Nat.reduceEqDiff, Nat.reduceMod, Nat.reduceDiv, Int.reduceNeg, Int.reduceLE, Int.reduceLT, Int.reduceToNat, Int.reduceEq, Int.reduceNe, ↓reduceIte]

/-- Whether the last sign is a '*'; what stands before it. -/
def starB (s : ByteArray) : Bool := decide (0 < s.size) && decide (byteAt s (s.size - 1) = 42)
def starN (s : ByteArray) : ByteArray := if starB s = true then s.extract 0 (s.size - 1) else s
theorem last_star (s : ByteArray) (h : 0 < s.size) : decide (s.extract (s.size - 1) s.size = sStar) = decide (byteAt s (s.size - 1) = 42) := by
  rw [decide_eq_decide]
  have hl : s.data.toList.length = s.size := rfl
  have hd : (s.extract (s.size - 1) s.size).data.toList = [s.data.toList.getD (s.size - 1) 0] := by
    rw [ByteArray.data_extract, Array.toList_extract, List.extract_eq_take_drop]
    rw [List.drop_eq_getElem_cons (by omega), List.getD_eq_getElem?_getD, List.getElem?_eq_getElem (by omega)]
    rw [show s.size - (s.size - 1) = 1 by omega]
    rfl
  constructor
  · intro e
    rw [e] at hd
    have h2 : (42 : UInt8) = s.data.toList.getD (s.size - 1) 0 := List.cons.inj hd |>.1
    rw [byteAt, ← h2]; rfl
  · intro e
    have h2 : s.data.toList.getD (s.size - 1) 0 = 42 := by
      rw [byteAt] at e
      have : (s.data.toList.getD (s.size - 1) 0).toNat = 42 := by omega
      exact UInt8.toNat_inj.1 this
    rw [h2] at hd
    have : (s.extract (s.size - 1) s.size).data = #[42] := Array.toList_inj.1 hd
    exact ByteArray.ext this
theorem HasSuffix_good (s : ByteArray) (h : s.size ≤ 1000000) : Ans Tryz.prog 132 [.str s, .str sStar] (.bool (starB s)) := by
  have e1 : (sStar.size : Int) = 1 := rfl
  refine Classical.byCases (fun h1 : 0 < s.size => ?_) fun h1 => ?_
  · have e2 : (1 : Int) ≤ (s.size : Int) := by omega
    have hl := last_star s h1
    rw [starB, decide_eq_true h1, Bool.true_and, ← hl]
    have e3 : (0 : Int) ≤ ((s.size - 1 : Nat) : Int) := by omega
    have e4 : ((s.size - 1 : Nat) : Int) ≤ (s.size : Int) := by omega
    refine good_run [] mixed Tryz.func132 rfl Tryz.ntmps132 (rs := [.tmp 4]) rfl (by decide +kernel) (by kernel_rfl) rfl ?_
    rw [startE_eq 21 _ _ _ rfl rfl]
    set_option maxRecDepth 100000 in simp (maxSteps := 10000000) only [go_sem, Nat.reduceAdd, Nat.reduceSub, Nat.reduceMul, Nat.reduceLT, Nat.reduceLeDiff, Nat.reduceEqDiff, Nat.reduceMod, Nat.reduceDiv, Int.reduceNeg, Int.reduceLE, Int.reduceLT, Int.reduceToNat, Int.reduceEq, Int.reduceNe, ↓reduceIte,  e1, e2, e3, e4, decide_true, wrap_pred h1 (show s.size ≤ 9223372036854775807 by omega), Int.toNat_natCast, Int.le_refl]
    done
  · have e2 : ¬ (1 : Int) ≤ (s.size : Int) := by omega
    rw [starB, decide_eq_false h1, Bool.false_and]
    refine good_run [] mixed Tryz.func132 rfl Tryz.ntmps132 (rs := [.tmp 4]) rfl (by decide +kernel) (by kernel_rfl) rfl ?_
    rw [startE_eq 21 _ _ _ rfl rfl]
    set_option maxRecDepth 100000 in simp (maxSteps := 10000000) only [go_sem, Nat.reduceAdd, Nat.reduceSub, Nat.reduceMul, Nat.reduceLT, Nat.reduceLeDiff, Nat.reduceEqDiff, Nat.reduceMod, Nat.reduceDiv, Int.reduceNeg, Int.reduceLE, Int.reduceLT, Int.reduceToNat, Int.reduceEq, Int.reduceNe, ↓reduceIte,  e1, e2, decide_false]
    done
theorem CutSuffix1_good (s : ByteArray) (h : s.size ≤ 1000000) : Ans Tryz.prog 102 [.str s, .str sStar] (.tup [.str (starN s), .bool (starB s)]) := by
  have e1 : (sStar.size : Int) = 1 := rfl
  have hx := HasSuffix_good s h
  refine Classical.byCases (fun h1 : starB s = true => ?_) fun h1 => ?_
  · have h2 : 0 < s.size := by rw [starB, Bool.and_eq_true, decide_eq_true_eq] at h1; exact h1.1
    rw [starN, if_pos h1, h1]
    rw [h1] at hx
    have e3 : (0 : Int) ≤ ((s.size - 1 : Nat) : Int) := by omega
    have e4 : ((s.size - 1 : Nat) : Int) ≤ (s.size : Int) := by omega
    refine good_run [] mixed Tryz.func102 rfl Tryz.ntmps102 (rs := [.tmp 4, .tmp 5]) rfl (by decide +kernel) (by kernel_rfl) rfl ?_
    rw [startE_eq 18 _ _ _ rfl rfl]
    set_option maxRecDepth 100000 in simp (maxSteps := 10000000) only [go_sem, Nat.reduceAdd, Nat.reduceSub, Nat.reduceMul, Nat.reduceLT, Nat.reduceLeDiff, Nat.reduceEqDiff, Nat.reduceMod, Nat.reduceDiv, Int.reduceNeg, Int.reduceLE, Int.reduceLT, Int.reduceToNat, Int.reduceEq, Int.reduceNe, ↓reduceIte]
    refine call_of (hx) ?_
    set_option maxRecDepth 100000 in simp (maxSteps := 10000000) only [go_sem, Nat.reduceAdd, Nat.reduceSub, Nat.reduceMul, Nat.reduceLT, Nat.reduceLeDiff, Nat.reduceEqDiff, Nat.reduceMod, Nat.reduceDiv, Int.reduceNeg, Int.reduceLE, Int.reduceLT, Int.reduceToNat, Int.reduceEq, Int.reduceNe, ↓reduceIte,  e1, e3, e4, Bool.not_true, wrap_pred h2 (show s.size ≤ 9223372036854775807 by omega), Int.toNat_natCast, Int.le_refl, Int.toNat_zero]
    done
  · rw [starN, if_neg h1, Bool.eq_false_iff.2 h1]
    rw [Bool.eq_false_iff.2 h1] at hx
    refine good_run [] mixed Tryz.func102 rfl Tryz.ntmps102 (rs := [.tmp 4, .tmp 5]) rfl (by decide +kernel) (by kernel_rfl) rfl ?_
    rw [startE_eq 18 _ _ _ rfl rfl]
    set_option maxRecDepth 100000 in simp (maxSteps := 10000000) only [go_sem, Nat.reduceAdd, Nat.reduceSub, Nat.reduceMul, Nat.reduceLT, Nat.reduceLeDiff, Nat.reduceEqDiff, Nat.reduceMod, Nat.reduceDiv, Int.reduceNeg, Int.reduceLE, Int.reduceLT, Int.reduceToNat, Int.reduceEq, Int.reduceNe, ↓reduceIte]
    refine call_of (hx) ?_
    set_option maxRecDepth 100000 in simp (maxSteps := 10000000) only [go_sem, Nat.reduceAdd, Nat.reduceSub, Nat.reduceMul, Nat.reduceLT, Nat.reduceLeDiff, Nat.reduceEqDiff, Nat.reduceMod, Nat.reduceDiv, Int.reduceNeg, Int.reduceLE, Int.reduceLT, Int.reduceToNat, Int.reduceEq, Int.reduceNe, ↓reduceIte,  Bool.not_false]
    done
theorem CutSuffix_good (s : ByteArray) (h : s.size ≤ 1000000) : Ans Tryz.prog 65 [.str s, .str sStar] (.tup [.str (starN s), .bool (starB s)]) := by
  refine good_run [] mixed Tryz.func65 rfl Tryz.ntmps65 (rs := [.tmp 4, .tmp 5]) rfl (by decide +kernel) (by kernel_rfl) rfl ?_
  rw [startE_eq 11 _ _ _ rfl rfl]
  set_option maxRecDepth 100000 in simp (maxSteps := 10000000) only [go_sem, Nat.reduceAdd, Nat.reduceSub, Nat.reduceMul, Nat.reduceLT, Nat.reduceLeDiff, Nat.reduceEqDiff, Nat.reduceMod, Nat.reduceDiv, Int.reduceNeg, Int.reduceLE, Int.reduceLT, Int.reduceToNat, Int.reduceEq, Int.reduceNe, ↓reduceIte]
  refine call_of (CutSuffix1_good s h) ?_
  set_option maxRecDepth 100000 in simp (maxSteps := 10000000) only [go_sem, Nat.reduceAdd, Nat.reduceSub, Nat.reduceMul, Nat.reduceLT, Nat.reduceLeDiff, Nat.reduceEqDiff, Nat.reduceMod, Nat.reduceDiv, Int.reduceNeg, Int.reduceLE, Int.reduceLT, Int.reduceToNat, Int.reduceEq, Int.reduceNe, ↓reduceIte]

/-- The special libraries. -/
def sLIBL : ByteArray := ⟨#[42, 76, 73, 66, 76]⟩
def sCUR : ByteArray := ⟨#[42, 67, 85, 82, 76, 73, 66]⟩
def sUSR : ByteArray := ⟨#[42, 85, 83, 82, 76, 73, 66, 76]⟩
def isSp (s : ByteArray) : Bool := decide (s = sLIBL) || decide (s = sCUR) || decide (s = sUSR)
theorem isSpecial_good (s : ByteArray) : Ans Tryz.prog 61 [.str s] (.bool (isSp s)) := by
  refine Classical.byCases (fun e1 : decide (s = ⟨#[42, 76, 73, 66, 76]⟩) = true => ?_) fun e1 => ?_
  · rw [isSp, show decide (s = sLIBL) = true from e1, Bool.true_or, Bool.true_or]
    refine good_run [] mixed Tryz.func61 rfl Tryz.ntmps61 (rs := [.tmp 2]) rfl (by decide +kernel) (by kernel_rfl) rfl ?_
    rw [startE_eq 13 _ _ _ rfl rfl]
    set_option maxRecDepth 100000 in simp (maxSteps := 10000000) only [go_sem, Nat.reduceAdd, Nat.reduceSub, Nat.reduceMul, Nat.reduceLT, Nat.reduceLeDiff, Nat.reduceEqDiff, Nat.reduceMod, Nat.reduceDiv, Int.reduceNeg, Int.reduceLE, Int.reduceLT, Int.reduceToNat, Int.reduceEq, Int.reduceNe, ↓reduceIte,  e1]
  have e1' := Bool.eq_false_iff.2 e1
  refine Classical.byCases (fun e2 : decide (s = ⟨#[42, 67, 85, 82, 76, 73, 66]⟩) = true => ?_) fun e2 => ?_
  · rw [isSp, show decide (s = sLIBL) = false from e1', show decide (s = sCUR) = true from e2, Bool.false_or, Bool.true_or]
    refine good_run [] mixed Tryz.func61 rfl Tryz.ntmps61 (rs := [.tmp 2]) rfl (by decide +kernel) (by kernel_rfl) rfl ?_
    rw [startE_eq 13 _ _ _ rfl rfl]
    set_option maxRecDepth 100000 in simp (maxSteps := 10000000) only [go_sem, Nat.reduceAdd, Nat.reduceSub, Nat.reduceMul, Nat.reduceLT, Nat.reduceLeDiff, Nat.reduceEqDiff, Nat.reduceMod, Nat.reduceDiv, Int.reduceNeg, Int.reduceLE, Int.reduceLT, Int.reduceToNat, Int.reduceEq, Int.reduceNe, ↓reduceIte,  e1', e2]
  have e2' := Bool.eq_false_iff.2 e2
  rw [isSp, show decide (s = sLIBL) = false from e1', show decide (s = sCUR) = false from e2', Bool.false_or, Bool.false_or]
  refine good_run [] mixed Tryz.func61 rfl Tryz.ntmps61 (rs := [.tmp 2]) rfl (by decide +kernel) (by kernel_rfl) rfl ?_
  rw [startE_eq 13 _ _ _ rfl rfl]
  set_option maxRecDepth 100000 in simp (maxSteps := 10000000) only [go_sem, Nat.reduceAdd, Nat.reduceSub, Nat.reduceMul, Nat.reduceLT, Nat.reduceLeDiff, Nat.reduceEqDiff, Nat.reduceMod, Nat.reduceDiv, Int.reduceNeg, Int.reduceLE, Int.reduceLT, Int.reduceToNat, Int.reduceEq, Int.reduceNe, ↓reduceIte,  e1', e2']
  rfl
theorem libName_err (s : ByteArray) : errName ⟨qsys, s, 1⟩ = if isNm s = true then 0 else 7 := by
  have h1 : inB 1 0 29 = true := by decide
  have h2 : isNm qsys = true := by decide +kernel
  have h3 : isSys 1 = false := by decide
  rw [errName]
  simp only [h1, h2, clash, h3]
  cases isNm s <;> simp
theorem libName_good (s : ByteArray) : Ans Tryz.prog 62 [.str s] (.bool (isNm s)) := by
  refine Classical.byCases (fun h1 : s.size ≤ 10 => ?_) fun h1 => ?_
  · have hc : Ans Tryz.prog 50 [.agg [.str ⟨#[81, 83, 89, 83]⟩, .str s, .int .i64 1]] (.int .i64 (errName ⟨qsys, s, 1⟩)) := CheckName_good ⟨qsys, s, 1⟩
    rw [libName_err] at hc
    have e1 : (s.size : Int) ≤ 10 := by omega
    have _ := e1
    refine Classical.byCases (fun h2 : isNm s = true => ?_) fun h2 => ?_
    · rw [if_pos h2] at hc
      rw [h2]
      refine good_run [] mixed Tryz.func62 rfl Tryz.ntmps62 (rs := [.tmp 2]) rfl (by decide +kernel) (by kernel_rfl) rfl ?_
      rw [startE_eq 12 _ _ _ rfl rfl]
      set_option maxRecDepth 100000 in simp (maxSteps := 10000000) only [go_sem, Nat.reduceAdd, Nat.reduceSub, Nat.reduceMul, Nat.reduceLT, Nat.reduceLeDiff, Nat.reduceEqDiff, Nat.reduceMod, Nat.reduceDiv, Int.reduceNeg, Int.reduceLE, Int.reduceLT, Int.reduceToNat, Int.reduceEq, Int.reduceNe, ↓reduceIte,  e1, decide_true]
      refine call_of (hc) ?_
      set_option maxRecDepth 100000 in simp (maxSteps := 10000000) only [go_sem, Nat.reduceAdd, Nat.reduceSub, Nat.reduceMul, Nat.reduceLT, Nat.reduceLeDiff, Nat.reduceEqDiff, Nat.reduceMod, Nat.reduceDiv, Int.reduceNeg, Int.reduceLE, Int.reduceLT, Int.reduceToNat, Int.reduceEq, Int.reduceNe, ↓reduceIte]
      done
    · rw [if_neg h2] at hc
      rw [Bool.eq_false_iff.2 h2]
      refine good_run [] mixed Tryz.func62 rfl Tryz.ntmps62 (rs := [.tmp 2]) rfl (by decide +kernel) (by kernel_rfl) rfl ?_
      rw [startE_eq 12 _ _ _ rfl rfl]
      set_option maxRecDepth 100000 in simp (maxSteps := 10000000) only [go_sem, Nat.reduceAdd, Nat.reduceSub, Nat.reduceMul, Nat.reduceLT, Nat.reduceLeDiff, Nat.reduceEqDiff, Nat.reduceMod, Nat.reduceDiv, Int.reduceNeg, Int.reduceLE, Int.reduceLT, Int.reduceToNat, Int.reduceEq, Int.reduceNe, ↓reduceIte,  e1, decide_true]
      refine call_of (hc) ?_
      set_option maxRecDepth 100000 in simp (maxSteps := 10000000) only [go_sem, Nat.reduceAdd, Nat.reduceSub, Nat.reduceMul, Nat.reduceLT, Nat.reduceLeDiff, Nat.reduceEqDiff, Nat.reduceMod, Nat.reduceDiv, Int.reduceNeg, Int.reduceLE, Int.reduceLT, Int.reduceToNat, Int.reduceEq, Int.reduceNe, ↓reduceIte]
      done
  · have e1 : ¬ (s.size : Int) ≤ 10 := by omega
    rw [isNm, decide_eq_false (by omega), Bool.false_and]
    refine good_run [] mixed Tryz.func62 rfl Tryz.ntmps62 (rs := [.tmp 2]) rfl (by decide +kernel) (by kernel_rfl) rfl ?_
    rw [startE_eq 12 _ _ _ rfl rfl]
    set_option maxRecDepth 100000 in simp (maxSteps := 10000000) only [go_sem, Nat.reduceAdd, Nat.reduceSub, Nat.reduceMul, Nat.reduceLT, Nat.reduceLeDiff, Nat.reduceEqDiff, Nat.reduceMod, Nat.reduceDiv, Int.reduceNeg, Int.reduceLE, Int.reduceLT, Int.reduceToNat, Int.reduceEq, Int.reduceNe, ↓reduceIte,  e1, decide_false]
    done
end Go.Proofs.YtppjmigiogddpaaGreat.C08
