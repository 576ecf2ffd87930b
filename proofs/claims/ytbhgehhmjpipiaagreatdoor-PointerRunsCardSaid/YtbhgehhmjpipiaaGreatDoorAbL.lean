/- A value of the abstract machine told in other words: a nil slice as one of no entries. -/
import Derived.Test.YtbhgehhmjpipiaaGreatDoorAb1
set_option linter.unusedSimpArgs false
set_option linter.unusedVariables false
namespace Go.Proofs.YtbhgehhmjpipiaaGreatDoor.Ab
open Go Go.RowKit
inductive AVle : AV → AV → Prop
 | refl (a : AV) : AVle a a
 | nils : AVle .nils (.sl [])
 | emp : AVle .emp (.sl [])
 | agg (xs ys : List AV) (hl : xs.length = ys.length) (h : ∀ (i : Nat) (x y : AV), xs[i]? = some x → ys[i]? = some y → AVle x y) : AVle (.agg xs) (.agg ys)
 | tup (xs ys : List AV) (hl : xs.length = ys.length) (h : ∀ (i : Nat) (x y : AV), xs[i]? = some x → ys[i]? = some y → AVle x y) : AVle (.tup xs) (.tup ys)
 | sl (xs ys : List (List AV)) (hl : xs.length = ys.length) (hr : ∀ (i : Nat) (x y : List AV), xs[i]? = some x → ys[i]? = some y → x.length = y.length)
    (h : ∀ (i j : Nat) (x y : List AV) (a b : AV), xs[i]? = some x → ys[i]? = some y → x[j]? = some a → y[j]? = some b → AVle a b) : AVle (.sl xs) (.sl ys)
theorem AVle.cellP {a b : AV} (h : AVle a b) (ha : a.cellP = true) : b.cellP = true := by
 cases h <;> simp_all [AV.cellP]
theorem pair_get {α β : Type} {xs : List α} {ys : List β} (hl : xs.length = ys.length) {i : Nat} {y : β} (h : ys[i]? = some y) : ∃ x, xs[i]? = some x := by
 have : i < xs.length := by rw [hl]; exact (List.getElem?_eq_some_iff.1 h).1
 exact ⟨_, List.getElem?_eq_getElem this⟩
theorem VRel.le {G : Gh} {w : World} {a b : AV} {v : Value} (hab : AVle a b) (h : VRel G w a v) : VRel G w b v := by
 induction hab generalizing v with
 | refl a => exact h
 | nils => cases h; exact .sl0 _ _
 | emp => cases h; exact .sl0 _ _
 | agg xs ys hl hh ih =>
   cases h with
   | agg _ vs hn hr =>
     refine .agg _ _ (by omega) fun i c u h1 h2 => ?_
     obtain ⟨x, hx⟩ := pair_get hl h1
     exact ih i x c hx h1 (hr i x u hx h2)
 | tup xs ys hl hh ih =>
   cases h with
   | tup _ vs hn hr =>
     refine .tup _ _ (by omega) fun i c u h1 h2 => ?_
     obtain ⟨x, hx⟩ := pair_get hl h1
     exact ih i x c hx h1 (hr i x u hx h2)
 | sl xs ys hl hr hh ih =>
   cases h with
   | sl0 A c =>
     cases ys with
     | nil => exact .sl0 _ _
     | cons y ys => simp at hl
   | sl _ b o c esz V hc hs hp hcell hpr hv =>
     rw [show xs.length = ys.length from hl]
     have get : ∀ {i j : Nat} {y : List AV} {d : AV}, ys[i]? = some y → y[j]? = some d → ∃ x a, xs[i]? = some x ∧ x[j]? = some a := fun {i j y d} h1 h2 => by
      obtain ⟨x, hx⟩ := pair_get hl h1
      obtain ⟨a, ha⟩ := pair_get (hr i x y hx h1) h2
      exact ⟨x, a, hx, ha⟩
     refine .sl ys b o c esz V (by omega) (fun y hy => ?_) (fun y hy d hd => ?_) (fun i j y d h1 h2 => ?_) (fun i j y d h1 h2 => ?_) (fun i j y d h1 h2 => ?_)
     · obtain ⟨i, hi⟩ := List.getElem?_of_mem hy
       obtain ⟨x, hx⟩ := pair_get hl hi
       rw [← hr i x y hx hi]; exact hs x (List.mem_of_getElem? hx)
     · obtain ⟨i, hi⟩ := List.getElem?_of_mem hy
       obtain ⟨j, hj⟩ := List.getElem?_of_mem hd
       obtain ⟨x, a, hx, ha⟩ := get hi hj
       exact (hh i j x y a d hx hi ha hj).cellP (hp x (List.mem_of_getElem? hx) a (List.mem_of_getElem? ha))
     · obtain ⟨x, a, hx, ha⟩ := get h1 h2; exact hcell i j x a hx ha
     · obtain ⟨x, a, hx, ha⟩ := get h1 h2; exact hpr i j x a hx ha
     · obtain ⟨x, a, hx, ha⟩ := get h1 h2; exact ih i j x y a d hx h1 ha h2 (hv i j x a hx ha)
def CellsLe (xs ys : List AV) : Prop := xs.length = ys.length ∧ ∀ (i : Nat) (x y : AV), xs[i]? = some x → ys[i]? = some y → AVle x y
theorem CellsLe.nil : CellsLe [] [] := ⟨rfl, fun i x y h => by simp at h⟩
theorem CellsLe.cons {x y : AV} {xs ys : List AV} (h : AVle x y) (hs : CellsLe xs ys) : CellsLe (x :: xs) (y :: ys) :=
 ⟨by simp [hs.1], fun i a b h1 h2 => by
   cases i with
   | zero => simp at h1 h2; subst h1 h2; exact h
   | succ i => exact hs.2 i a b (by simpa using h1) (by simpa using h2)⟩
theorem CellsLe.refl (xs : List AV) : CellsLe xs xs := ⟨rfl, fun i x y h1 h2 => by rw [h1] at h2; cases h2; exact .refl _⟩
theorem AVle.agg' {xs ys : List AV} (h : CellsLe xs ys) : AVle (.agg xs) (.agg ys) := .agg _ _ h.1 h.2
def RowsLe (xs ys : List (List AV)) : Prop := xs.length = ys.length ∧ ∀ (i : Nat) (x y : List AV), xs[i]? = some x → ys[i]? = some y → CellsLe x y
theorem RowsLe.nil : RowsLe [] [] := ⟨rfl, fun i x y h => by simp at h⟩
theorem RowsLe.cons {x y : List AV} {xs ys : List (List AV)} (h : CellsLe x y) (hs : RowsLe xs ys) : RowsLe (x :: xs) (y :: ys) :=
 ⟨by simp [hs.1], fun i a b h1 h2 => by
   cases i with
   | zero => simp at h1 h2; subst h1 h2; exact h
   | succ i => exact hs.2 i a b (by simpa using h1) (by simpa using h2)⟩
theorem AVle.sl' {xs ys : List (List AV)} (h : RowsLe xs ys) : AVle (.sl xs) (.sl ys) := .sl _ _ h.1 (fun i x y h1 h2 => (h.2 i x y h1 h2).1) fun i j x y a b h1 h2 h3 h4 => (h.2 i x y h1 h2).2 j a b h3 h4
end Go.Proofs.YtbhgehhmjpipiaaGreatDoor.Ab
