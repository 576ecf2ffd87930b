/- Chapter 6: exclusive or. -/
import Derived.Test.YtdfdagfgkijpcaaA4
import Derived.Laws.Bits64
namespace Go.Proofs.Ytdfdagfgkijpcaa.C06
open Go Go.Proofs Go.Proofs.Ytdfdagfgkijpcaa.Ab
set_option linter.unusedSimpArgs false
set_option linter.unusedVariables false
attribute [local congr] ite_ctx

theorem bits_u8 (a b : UInt8) : bits .xor .u8 (a.toNat : Int) (b.toNat : Int) = ((a ^^^ b).toNat : Int) := by
  have ha : a.toNat < 256 := a.toNat_lt
  have hb : b.toNat < 256 := b.toNat_lt
  have hx : a.toNat ^^^ b.toNat < 2 ^ 8 := Nat.xor_lt_two_pow (by omega) (by omega)
  have h1 : (BitVec.ofInt 8 (a.toNat : Int)).toNat = a.toNat := by
    rw [BitVec.ofInt_natCast, BitVec.toNat_ofNat]; exact Nat.mod_eq_of_lt (by omega)
  have h2 : (BitVec.ofInt 8 (b.toNat : Int)).toNat = b.toNat := by
    rw [BitVec.ofInt_natCast, BitVec.toNat_ofNat]; exact Nat.mod_eq_of_lt (by omega)
  show IntKind.u8.wrap ((BitVec.ofInt 8 (a.toNat : Int) ^^^ BitVec.ofInt 8 (b.toNat : Int)).toNat : Int) = _
  rw [BitVec.toNat_xor, h1, h2, UInt8.toNat_xor]
  unfold IntKind.wrap
  simp [IntKind.signed, IntKind.bits]
  omega

/-- A row of bytes. -/
def rowB (f : Nat → UInt8) : List (List AV) := ((List.range 16).map f).map encByte
theorem rowB_len (f : Nat → UInt8) : (rowB f).length = 16 := by simp [rowB]
theorem rowB_rl (f : Nat → UInt8) : rowsLen 1 (rowB f) = true := rl_encByte _
theorem rowB_at (f : Nat → UInt8) {i : Nat} (h : i < 16) : (rowB f)[i]? = some [.int .u8 ((f i).toNat : Int)] := by simp [rowB, h, encByte]
theorem rowB_set (f : Nat → UInt8) {i : Nat} (h : i < 16) (x : UInt8) : (rowB f).set i [.int .u8 (x.toNat : Int)] = rowB (fun m => if m = i then x else f m) := by
  apply List.ext_getElem?
  intro k
  rw [List.getElem?_set]
  by_cases hk : i = k
  · subst hk
    rw [if_pos rfl, if_pos (by rw [rowB_len]; exact h), rowB_at _ h, if_pos rfl]
  · rw [if_neg hk]
    by_cases hk2 : k < 16
    · rw [rowB_at _ hk2, rowB_at _ hk2, if_neg (Ne.symm hk)]
    · rw [List.getElem?_eq_none (by rw [rowB_len]; omega), List.getElem?_eq_none (by rw [rowB_len]; omega)]
theorem rowB_congr {f g : Nat → UInt8} (h : ∀ m, m < 16 → f m = g m) : rowB f = rowB g := by
  unfold rowB
  congr 1
  exact List.map_congr_left fun m hm => h m (List.mem_range.1 hm)
theorem rowB_str (f : Nat → UInt8) : strOf (rowB f) = some ((List.range 16).map f) := strOf_map _
theorem byteAt_bat (s : ByteArray) (i : Nat) : byteAt s i = ((bat s i).toNat : Int) := rfl
def accB (l : List ByteArray) (j m : Nat) : UInt8 := (l.take j).foldl (fun c s => c ^^^ bat s m) 0
theorem accB_succ {l : List ByteArray} {j : Nat} (h : j < l.length) (m : Nat) : accB l (j + 1) m = accB l j m ^^^ bat (nth l j) m := by
  unfold accB
  rw [← take_snoc h, List.foldl_append]; rfl

set_option maxHeartbeats 4000000 in
theorem Xor_good (l : List ByteArray) (hl : l.length ≤ 1000000) (h : ∀ s ∈ l, s.size = 16) : Ans Try.prog 60 [.sl (l.map encStr)] (.str (xorL l)) := by
  refine good_run [(6, [6, 17, 18, 19, 20, 21, 22, 23, 24, 25, 26, 27, 28], []), (3, [5, 6, 11, 12, 13, 14, 15, 16, 17, 18, 19, 20, 21, 22, 23, 24, 25, 26, 27, 28, 29], [])] mixed Try.func60 rfl Try.ntmps60 (rs := [.tmp 2]) rfl (by decide +kernel) (by kernel_rfl) rfl ?_
  rw [startE_eq 32 _ _ _ rfl rfl]
  set_option maxRecDepth 100000 in simp (maxSteps := 10000000) only [go_sem, Nat.reduceAdd, Nat.reduceSub, Nat.reduceMul, Nat.reduceLT, Nat.reduceLeDiff, Nat.reduceEqDiff, Nat.reduceMod, Nat.reduceDiv, Int.reduceNeg, Int.reduceLE, Int.reduceLT, Int.reduceToNat, Int.reduceEq, Int.reduceNe, ↓reduceIte,  show (16 : Int) ≤ 16777216 by decide, show (0 : Int) ≤ 16 by decide, show Int.toNat 16 * 1 ≤ 140737488355328 by decide, show Int.toNat 16 = 16 from rfl]
  refine loop_by ([5, 6, 11, 12, 13, 14, 15, 16, 17, 18, 19, 20, 21, 22, 23, 24, 25, 26, 27, 28, 29], []) (fun j : Nat => [(.s 10, .int .i64 (j : Int)), (.o 7, .obj 1 5 1 false true (rowB (accB l j)))]) (fun j => l.length - j) (fun j => j ≤ l.length) 0 rfl (Nat.zero_le _) rfl ?_
  rintro c' st' hst j hj ih
  set_option maxRecDepth 100000 in simp (maxSteps := 10000000) only [go_sem, Nat.reduceAdd, Nat.reduceSub, Nat.reduceMul, Nat.reduceLT, Nat.reduceLeDiff, Nat.reduceEqDiff, Nat.reduceMod, Nat.reduceDiv, Int.reduceNeg, Int.reduceLE, Int.reduceLT, Int.reduceToNat, Int.reduceEq, Int.reduceNe, ↓reduceIte]
  refine ifI (fun hlt => ?_) fun hlt => ?_
  case refine_2 =>
    have hjl : j = l.length := by omega
    subst hst hjl
    set_option maxRecDepth 100000 in simp (maxSteps := 10000000) only [go_sem, Nat.reduceAdd, Nat.reduceSub, Nat.reduceMul, Nat.reduceLT, Nat.reduceLeDiff, Nat.reduceEqDiff, Nat.reduceMod, Nat.reduceDiv, Int.reduceNeg, Int.reduceLE, Int.reduceLT, Int.reduceToNat, Int.reduceEq, Int.reduceNe, ↓reduceIte,  hlt, rowB_str, Option.map_some]
    unfold xorL mk16 accB
    rw [List.take_of_length_le (Nat.le_refl _)]
    rfl
  have hs := h _ (nth_mem hlt)
  set_option maxRecDepth 100000 in simp (maxSteps := 10000000) only [go_sem, Nat.reduceAdd, Nat.reduceSub, Nat.reduceMul, Nat.reduceLT, Nat.reduceLeDiff, Nat.reduceEqDiff, Nat.reduceMod, Nat.reduceDiv, Int.reduceNeg, Int.reduceLE, Int.reduceLT, Int.reduceToNat, Int.reduceEq, Int.reduceNe, ↓reduceIte,  hlt, rowB_len]
  have ihh := show id _ from ih
  clear ih
  have hstt := show id _ from hst
  clear hst
  refine loop_by ([6, 17, 18, 19, 20, 21, 22, 23, 24, 25, 26, 27, 28], []) (fun i : Nat => [(.s 16, .int .i64 (i : Int)), (.o 7, .obj 1 5 1 false true (rowB (fun m => if m < i then accB l (j + 1) m else accB l j m)))]) (fun i => 16 - i) (fun i => i ≤ 16) 0 rfl (Nat.zero_le _) ?_ ?_
  · set_option maxRecDepth 100000 in simp (maxSteps := 10000000) only [go_sem, Nat.reduceAdd, Nat.reduceSub, Nat.reduceMul, Nat.reduceLT, Nat.reduceLeDiff, Nat.reduceEqDiff, Nat.reduceMod, Nat.reduceDiv, Int.reduceNeg, Int.reduceLE, Int.reduceLT, Int.reduceToNat, Int.reduceEq, Int.reduceNe, ↓reduceIte,  Nat.not_lt_zero, if_false]
  rintro c2 st2 hst2 i hi ih2
  set_option maxRecDepth 100000 in simp (maxSteps := 10000000) only [go_sem, Nat.reduceAdd, Nat.reduceSub, Nat.reduceMul, Nat.reduceLT, Nat.reduceLeDiff, Nat.reduceEqDiff, Nat.reduceMod, Nat.reduceDiv, Int.reduceNeg, Int.reduceLE, Int.reduceLT, Int.reduceToNat, Int.reduceEq, Int.reduceNe, ↓reduceIte]
  refine ifI (fun hi2 => ?_) fun hi2 => ?_
  · have hi16 : i < 16 := by omega
    have hi3 : (i : Int) < (nth l j).size := by omega
    have hset : (rowB (fun m => if m < i then accB l (j + 1) m else accB l j m)).set i [.int .u8 ((accB l j i ^^^ bat (nth l j) i).toNat : Int)] = rowB (fun m => if m < i + 1 then accB l (j + 1) m else accB l j m) := by
      rw [rowB_set _ hi16]
      refine rowB_congr fun m hm => ?_
      by_cases q : m = i
      · subst q
        rw [if_pos rfl, if_pos (by omega), accB_succ hlt]
      · rw [if_neg q]
        by_cases q2 : m < i
        · rw [if_pos q2, if_pos (by omega)]
        · rw [if_neg q2, if_neg (by omega)]
    set_option maxRecDepth 100000 in simp (maxSteps := 10000000) only [go_sem, Nat.reduceAdd, Nat.reduceSub, Nat.reduceMul, Nat.reduceLT, Nat.reduceLeDiff, Nat.reduceEqDiff, Nat.reduceMod, Nat.reduceDiv, Int.reduceNeg, Int.reduceLE, Int.reduceLT, Int.reduceToNat, Int.reduceEq, Int.reduceNe, ↓reduceIte,  hi2, hi16, rowB_len, rowB_at, hi3, byteAt_bat, bits_u8, Nat.lt_irrefl, if_false, hset]
    refine ⟨by decide +kernel, ?_⟩
    refine ih2 (i + 1) _ (by omega) (by omega) ?_
    set_option maxRecDepth 100000 in simp (maxSteps := 10000000) only [go_sem, Nat.reduceAdd, Nat.reduceSub, Nat.reduceMul, Nat.reduceLT, Nat.reduceLeDiff, Nat.reduceEqDiff, Nat.reduceMod, Nat.reduceDiv, Int.reduceNeg, Int.reduceLE, Int.reduceLT, Int.reduceToNat, Int.reduceEq, Int.reduceNe, ↓reduceIte,  wrap_succ (show i < 9223372036854775807 by omega)]
  · have hi16 : i = 16 := by omega
    subst hst2 hi16
    have hr : rowB (fun m => if m < 16 then accB l (j + 1) m else accB l j m) = rowB (accB l (j + 1)) := rowB_congr fun m hm => if_pos hm
    set_option maxRecDepth 100000 in simp (maxSteps := 10000000) only [go_sem, Nat.reduceAdd, Nat.reduceSub, Nat.reduceMul, Nat.reduceLT, Nat.reduceLeDiff, Nat.reduceEqDiff, Nat.reduceMod, Nat.reduceDiv, Int.reduceNeg, Int.reduceLE, Int.reduceLT, Int.reduceToNat, Int.reduceEq, Int.reduceNe, ↓reduceIte,  hi2]
    refine ihh (j + 1) _ (by omega) (by omega) ?_
    set_option maxRecDepth 100000 in simp (maxSteps := 10000000) only [go_sem, Nat.reduceAdd, Nat.reduceSub, Nat.reduceMul, Nat.reduceLT, Nat.reduceLeDiff, Nat.reduceEqDiff, Nat.reduceMod, Nat.reduceDiv, Int.reduceNeg, Int.reduceLE, Int.reduceLT, Int.reduceToNat, Int.reduceEq, Int.reduceNe, ↓reduceIte,  wrap_succ (show j < 9223372036854775807 by omega), hr]

end Go.Proofs.Ytdfdagfgkijpcaa.C06
