/- Chapter 9: what a string is as the name of an object, by the reference. -/
import Derived.Test.YtppjmigiogddpaaE3
namespace Go.Proofs.Ytppjmigiogddpaa.C08
open Go Go.Proofs Go.Proofs.Ytppjmigiogddpaa.Ab
set_option linter.unusedSimpArgs false
attribute [local congr] ite_ctx

theorem indexByte_at (c : UInt8) : ∀ (l : List UInt8) (i : Nat), l[i]? = some c → 0 ≤ Lib.indexByte l c ∧ Lib.indexByte l c ≤ (i : Int)
  | [], i, h => by simp at h
  | b :: l, i, h => by
    rw [Lib.indexByte]
    by_cases h1 : (b == c) = true
    · rw [if_pos h1]; omega
    · rw [if_neg h1]
      cases i with
      | zero => simp at h; exact absurd (by simp [h]) h1
      | succ i =>
        have := indexByte_at c l i (by simpa using h)
        have h3 : ¬ (Lib.indexByte l c == -1) = true := by rw [beq_iff_eq]; omega
        rw [if_neg h3]; omega
theorem indexByte_get (c : UInt8) : ∀ (l : List UInt8), 0 ≤ Lib.indexByte l c → l[(Lib.indexByte l c).toNat]? = some c
  | [], h => by rw [Lib.indexByte] at h; exact absurd h (by decide)
  | b :: l, h => by
    rw [Lib.indexByte] at h ⊢
    by_cases h1 : (b == c) = true
    · rw [if_pos h1]; rw [beq_iff_eq] at h1; rw [h1]; rfl
    · rw [if_neg h1] at h ⊢
      by_cases h3 : (Lib.indexByte l c == -1) = true
      · rw [if_pos h3] at h; exact absurd h (by decide)
      · rw [if_neg h3] at h ⊢
        have hge := (indexByte_le c l).1
        rw [beq_iff_eq] at h3
        have h4 : 0 ≤ Lib.indexByte l c := by omega
        have := indexByte_get c l h4
        rw [show (Lib.indexByte l c + 1).toNat = (Lib.indexByte l c).toNat + 1 by omega, List.getElem?_cons_succ]
        exact this
theorem byte_get {s : ByteArray} {i : Nat} (h : i < s.size) : s.data.toList[i]? = some (s.data.toList.getD i 0) := by
  have hl : i < s.data.toList.length := h
  rw [List.getD_eq_getElem?_getD, List.getElem?_eq_getElem hl]; rfl
theorem slash_at {s : ByteArray} {i : Nat} (h : i < s.size) (hb : byteAt s i = 47) : 0 ≤ slash s ∧ slash s ≤ (i : Int) := by
  refine indexByte_at 47 _ i ?_
  rw [byte_get h]
  rw [byteAt] at hb
  have : s.data.toList.getD i 0 = 47 := UInt8.toNat_inj.1 (by show _ = 47; omega)
  rw [this]
theorem slash_byte {s : ByteArray} {i : Nat} (h : slash s = (i : Int)) : byteAt s i = 47 := by
  have := indexByte_get 47 s.data.toList (show 0 ≤ slash s by omega)
  rw [show (Lib.indexByte s.data.toList 47).toNat = i by have : slash s = Lib.indexByte s.data.toList 47 := rfl; omega] at this
  rw [byteAt, List.getD_eq_getElem?_getD, this]; rfl
theorem extract_all (s : ByteArray) : s.extract 0 s.size = s := by
  apply ByteArray.ext
  rw [ByteArray.data_extract]
  exact Array.extract_size ..

/-- At the i-th sign: whether a '/' was seen before. -/
def seen (s : ByteArray) (i : Nat) : Bool := decide (0 ≤ slash s) && decide (slash s < (i : Int))
def seenL (s : ByteArray) (i : Nat) : ByteArray := if seen s i = true then cutA s else ⟨#[]⟩
def seenA (s : ByteArray) (i : Nat) : Int := if seen s i = true then slash s + 1 else 0
theorem seen_end (s : ByteArray) : seen s s.size = cutF s := by
  have := slash_le s
  rw [seen, cutF, decide_eq_true (show slash s < (s.size : Int) from this.2), Bool.and_true]
theorem seen_zero (s : ByteArray) : seen s 0 = false := by
  rw [seen, Bool.and_eq_false_iff, decide_eq_false_iff_not, decide_eq_false_iff_not]; omega
theorem seen_F {s : ByteArray} {i : Nat} (h : seen s i = true) : cutF s = true := by
  rw [seen, Bool.and_eq_true] at h; exact h.1
theorem seen_now {s : ByteArray} {i : Nat} (h : i < s.size) (h1 : seen s i = false) (hb : byteAt s i = 47) : slash s = (i : Int) ∧ seen s (i + 1) = true := by
  have := slash_at h hb
  rw [seen, Bool.and_eq_false_iff, decide_eq_false_iff_not, decide_eq_false_iff_not] at h1
  have e : slash s = (i : Int) := by omega
  refine ⟨e, ?_⟩
  rw [seen, Bool.and_eq_true, decide_eq_true_eq, decide_eq_true_eq]; omega
theorem seen_not {s : ByteArray} {i : Nat} (h1 : seen s i = false) (hb : ¬ byteAt s i = 47) : seen s (i + 1) = false := by
  rw [seen, Bool.and_eq_false_iff, decide_eq_false_iff_not, decide_eq_false_iff_not] at h1 ⊢
  by_cases e : slash s = (i : Int)
  · exact absurd (slash_byte e) hb
  · omega

/-- Behind the search: what is left to be done. -/
abbrev RP (s : ByteArray) : Prop := Ans Try.prog 16 [.str s] (.tup [.agg (encQ (parseE s).1), .int .i64 (parseE s).2.1, .int .i64 (parseE s).2.2])
end Go.Proofs.Ytppjmigiogddpaa.C08
