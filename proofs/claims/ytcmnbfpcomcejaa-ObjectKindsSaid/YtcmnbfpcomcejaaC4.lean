/- Chapter 8: slices.SortFunc at objects, by the shelf's contract. -/
import Derived.Test.YtcmnbfpcomcejaaC3
import Derived.Shelf.SlSortCmp.WholeK
namespace Go.Proofs.Ytcmnbfpcomcejaa.C08
open Go Go.Proofs Go.Proofs.Ytcmnbfpcomcejaa.Ab
set_option linter.unusedSimpArgs false
set_option linter.unusedVariables false

def sortRen : Go.Shelf.Ren where
  f := fun x => match x with
    | 6 => 98
    | 15 => 106
    | 14 => 105
    | 28 => 117
    | 29 => 118
    | 20 => 109
    | 21 => 110
    | 22 => 111
    | 23 => 112
    | 24 => 113
    | 25 => 114
    | 26 => 115
    | 27 => 116
    | 46 => 120
    | 47 => 121
    | 48 => 122
    | 49 => 123
    | 50 => 124
    | 57 => 125
    | n => n
  t := fun x => match x with
    | 22 => 35
    | 24 => 25
    | 25 => 118
    | 3 => 3
    | 39 => 123
    | 0 => 0
    | 53 => 133
    | 55 => 135
    | 4 => 4
    | 46 => 126
    | 45 => 125
    | 50 => 130
    | 5 => 5
    | 9 => 9
    | 66 => 136
    | 70 => 140
    | 76 => 142
    | 77 => 42
    | n => n
  g := fun n => n
theorem sortLays : SlLaysF0.n6 Try.prog sortRen where
  mixed := mixed
  f6 := ⟨Try.f98.name, by kernel_rfl, Try.func98.trans (congrArg some (by kernel_rfl))⟩
  f14 := ⟨Try.f105.name, by kernel_rfl, Try.func105.trans (congrArg some (by kernel_rfl))⟩
  f15 := Try.func106.trans (congrArg some (by kernel_rfl))
  f20 := ⟨Try.f109.name, by kernel_rfl, Try.func109.trans (congrArg some (by kernel_rfl))⟩
  f21 := ⟨Try.f110.name, by kernel_rfl, Try.func110.trans (congrArg some (by kernel_rfl))⟩
  f22 := ⟨Try.f111.name, by kernel_rfl, Try.func111.trans (congrArg some (by kernel_rfl))⟩
  f23 := ⟨Try.f112.name, by kernel_rfl, Try.func112.trans (congrArg some (by kernel_rfl))⟩
  f24 := ⟨Try.f113.name, by kernel_rfl, Try.func113.trans (congrArg some (by kernel_rfl))⟩
  f25 := ⟨Try.f114.name, by kernel_rfl, Try.func114.trans (congrArg some (by kernel_rfl))⟩
  f26 := ⟨Try.f115.name, by kernel_rfl, Try.func115.trans (congrArg some (by kernel_rfl))⟩
  f27 := ⟨Try.f116.name, by kernel_rfl, Try.func116.trans (congrArg some (by kernel_rfl))⟩
  f28 := Try.func117.trans (congrArg some (by kernel_rfl))
  f29 := Try.func118.trans (congrArg some (by kernel_rfl))
  f46 := ⟨Try.f120.name, by kernel_rfl, Try.func120.trans (congrArg some (by kernel_rfl))⟩
  f47 := Try.func121.trans (congrArg some (by kernel_rfl))
  f48 := Try.func122.trans (congrArg some (by kernel_rfl))
  f49 := ⟨Try.f123.name, by kernel_rfl, Try.func123.trans (congrArg some (by kernel_rfl))⟩
  f50 := ⟨Try.f124.name, by kernel_rfl, Try.func124.trans (congrArg some (by kernel_rfl))⟩
  f57 := ⟨Try.f125.name, by kernel_rfl, Try.func125.trans (congrArg some (by kernel_rfl))⟩
  t0 := Try.underlying0
  a0 := Try.isAgg0
  z0 := Try.sizeOf0
  v0 := Try.zeroValue0
  t3 := Try.underlying3
  a3 := Try.isAgg3
  z3 := Try.sizeOf3
  v3 := Try.zeroValue3
  t4 := Try.underlying4
  a4 := Try.isAgg4
  z4 := Try.sizeOf4
  v4 := Try.zeroValue4
  t5 := Try.underlying5
  a5 := Try.isAgg5
  z5 := Try.sizeOf5
  v5 := Try.zeroValue5
  t9 := Try.underlying9
  a9 := Try.isAgg9
  z9 := Try.sizeOf9
  v9 := Try.zeroValue9
  t22 := Try.underlying35
  a22 := Try.isAgg35
  z22 := Try.sizeOf35
  v22 := Try.zeroValue35
  t25 := Try.underlying118
  a25 := Try.isAgg118
  z25 := Try.sizeOf118
  v25 := Try.zeroValue118
  t39 := Try.underlying123
  a39 := Try.isAgg123
  z39 := Try.sizeOf123
  v39 := Try.zeroValue123
  t45 := Try.underlying125
  a45 := Try.isAgg125
  z45 := Try.sizeOf125
  v45 := Try.zeroValue125
  t46 := Try.underlying126
  a46 := Try.isAgg126
  z46 := Try.sizeOf126
  v46 := Try.zeroValue126
  t50 := Try.underlying130
  a50 := Try.isAgg130
  z50 := Try.sizeOf130
  v50 := Try.zeroValue130
  t53 := Try.underlying133
  a53 := Try.isAgg133
  z53 := Try.sizeOf133
  v53 := Try.zeroValue133
  t55 := Try.underlying135
  a55 := Try.isAgg135
  z55 := Try.sizeOf135
  v55 := Try.zeroValue135
  t66 := Try.underlying136
  a66 := Try.isAgg136
  z66 := Try.sizeOf136
  v66 := Try.zeroValue136
  t70 := Try.underlying140
  a70 := Try.isAgg140
  z70 := Try.sizeOf140
  v70 := Try.zeroValue140
  t76 := Try.underlying142
  a76 := Try.isAgg142
  z76 := Try.sizeOf142
  v76 := Try.zeroValue142
  t77 := Try.underlying42
  a77 := Try.isAgg42
  z77 := Try.sizeOf42
  v77 := Try.zeroValue42

/-- An object's cells as the model has them. -/
def encV (o : Obj) : List Value := [.string o.name.lib, .string o.name.name, .int .i64 o.name.type, .string o.owner, .int .i64 o.seg, .string o.text, .string o.content]
def cmpO (a b : Obj) : Int := cmpN a.name b.name

theorem rel_encV {G : Gh} {w : World} {o : Obj} {j : Nat} {a : AV} {v : Value} (ha : (encObj o)[j]? = some a) (h : VRel G w a v) : (encV o)[j]? = some v := by
  match j, ha with
  | 0, ha => cases ha; cases h; rfl
  | 1, ha => cases ha; cases h; rfl
  | 2, ha => cases ha; cases h; rfl
  | 3, ha => cases ha; cases h; rfl
  | 4, ha => cases ha; cases h; rfl
  | 5, ha => cases ha; cases h; rfl
  | 6, ha => cases ha; cases h; rfl
  | j + 7, ha => simp [encObj] at ha
theorem encV_rel (G : Gh) (w : World) {o : Obj} {j : Nat} {a : AV} {v : Value} (ha : (encObj o)[j]? = some a) (hv : (encV o)[j]? = some v) : VRel G w a v := by
  match j, ha, hv with
  | 0, ha, hv => cases ha; cases hv; exact .str _
  | 1, ha, hv => cases ha; cases hv; exact .str _
  | 2, ha, hv => cases ha; cases hv; exact .int _ _
  | 3, ha, hv => cases ha; cases hv; exact .str _
  | 4, ha, hv => cases ha; cases hv; exact .int _ _
  | 5, ha, hv => cases ha; cases hv; exact .str _
  | 6, ha, hv => cases ha; cases hv; exact .str _
  | j + 7, ha, hv => simp [encObj] at ha

theorem grow_of {w w' : World} (h : BelowD w w') : ∃ q os, w' = Sort.grow (w.drewN q) os := by
  refine ⟨w'.drawn - w.drawn, w'.heap.extract w.heap.size w'.heap.size, ?_⟩
  have hh : w'.heap = w.heap ++ w'.heap.extract w.heap.size w'.heap.size := by
    apply Array.ext_getElem?
    intro k
    by_cases hk : k < w.heap.size
    · rw [h.block k hk, Array.getElem?_append_left hk]
    · rw [Array.getElem?_append_right (by omega), Array.getElem?_extract]
      have hs := h.size
      split
      · congr 1; omega
      · rw [Array.getElem?_eq_none (by omega)]
  obtain ⟨h1, t1, d1, o1, u1⟩ := w
  obtain ⟨h2, t2, d2, o2, u2⟩ := w'
  have e1 : t2 = t1 := h.tape
  have e2 : o2 = o1 := h.os
  have e3 : u2 = u1 := h.output
  have e4 : d1 ≤ d2 := h.dr
  subst e1 e2 e3
  simp only [Sort.grow, World.drewN, World.mk.injEq, true_and, and_true] at hh ⊢
  exact ⟨hh, by omega⟩
end Go.Proofs.Ytcmnbfpcomcejaa.C08
