/- Chapter 8: slices.SortFunc at objects, by the shelf's contract. -/
import Derived.Test.YtppjmigiogddpaaGreatC3
import Derived.Shelf.SlSortCmp.WholeK
namespace Go.Proofs.YtppjmigiogddpaaGreat.C08
open Go Go.Proofs Go.Proofs.YtppjmigiogddpaaGreat.Ab
set_option linter.unusedSimpArgs false
set_option linter.unusedVariables false

def sortRen : Go.Shelf.Ren where
  f := fun x => match x with
    | 6 => 41
    | 15 => 78
    | 14 => 77
    | 28 => 117
    | 29 => 118
    | 20 => 109
    | 21 => 110
    | 22 => 111
    | 23 => 112
    | 24 => 113
    | 25 => 114
    | 26 => 115
    | 27 => 116
    | 46 => 135
    | 47 => 136
    | 48 => 137
    | 49 => 138
    | 50 => 139
    | 57 => 146
    | n => n
  t := fun x => match x with
    | 22 => 22
    | 24 => 41
    | 25 => 90
    | 3 => 3
    | 39 => 125
    | 0 => 0
    | 53 => 146
    | 55 => 148
    | 4 => 4
    | 46 => 139
    | 45 => 138
    | 50 => 143
    | 5 => 5
    | 9 => 9
    | 66 => 162
    | 70 => 166
    | 76 => 171
    | 77 => 98
    | n => n
  g := fun n => n
theorem sortLays : SlLaysF0.n6 Tryz.prog sortRen where
  mixed := mixed
  f6 := ⟨Tryz.f41.name, by kernel_rfl, Tryz.func41.trans (congrArg some (by kernel_rfl))⟩
  f14 := ⟨Tryz.f77.name, by kernel_rfl, Tryz.func77.trans (congrArg some (by kernel_rfl))⟩
  f15 := Tryz.func78.trans (congrArg some (by kernel_rfl))
  f20 := ⟨Tryz.f109.name, by kernel_rfl, Tryz.func109.trans (congrArg some (by kernel_rfl))⟩
  f21 := ⟨Tryz.f110.name, by kernel_rfl, Tryz.func110.trans (congrArg some (by kernel_rfl))⟩
  f22 := ⟨Tryz.f111.name, by kernel_rfl, Tryz.func111.trans (congrArg some (by kernel_rfl))⟩
  f23 := ⟨Tryz.f112.name, by kernel_rfl, Tryz.func112.trans (congrArg some (by kernel_rfl))⟩
  f24 := ⟨Tryz.f113.name, by kernel_rfl, Tryz.func113.trans (congrArg some (by kernel_rfl))⟩
  f25 := ⟨Tryz.f114.name, by kernel_rfl, Tryz.func114.trans (congrArg some (by kernel_rfl))⟩
  f26 := ⟨Tryz.f115.name, by kernel_rfl, Tryz.func115.trans (congrArg some (by kernel_rfl))⟩
  f27 := ⟨Tryz.f116.name, by kernel_rfl, Tryz.func116.trans (congrArg some (by kernel_rfl))⟩
  f28 := Tryz.func117.trans (congrArg some (by kernel_rfl))
  f29 := Tryz.func118.trans (congrArg some (by kernel_rfl))
  f46 := ⟨Tryz.f135.name, by kernel_rfl, Tryz.func135.trans (congrArg some (by kernel_rfl))⟩
  f47 := Tryz.func136.trans (congrArg some (by kernel_rfl))
  f48 := Tryz.func137.trans (congrArg some (by kernel_rfl))
  f49 := ⟨Tryz.f138.name, by kernel_rfl, Tryz.func138.trans (congrArg some (by kernel_rfl))⟩
  f50 := ⟨Tryz.f139.name, by kernel_rfl, Tryz.func139.trans (congrArg some (by kernel_rfl))⟩
  f57 := ⟨Tryz.f146.name, by kernel_rfl, Tryz.func146.trans (congrArg some (by kernel_rfl))⟩
  t0 := Tryz.underlying0
  a0 := Tryz.isAgg0
  z0 := Tryz.sizeOf0
  v0 := Tryz.zeroValue0
  t3 := Tryz.underlying3
  a3 := Tryz.isAgg3
  z3 := Tryz.sizeOf3
  v3 := Tryz.zeroValue3
  t4 := Tryz.underlying4
  a4 := Tryz.isAgg4
  z4 := Tryz.sizeOf4
  v4 := Tryz.zeroValue4
  t5 := Tryz.underlying5
  a5 := Tryz.isAgg5
  z5 := Tryz.sizeOf5
  v5 := Tryz.zeroValue5
  t9 := Tryz.underlying9
  a9 := Tryz.isAgg9
  z9 := Tryz.sizeOf9
  v9 := Tryz.zeroValue9
  t22 := Tryz.underlying22
  a22 := Tryz.isAgg22
  z22 := Tryz.sizeOf22
  v22 := Tryz.zeroValue22
  t25 := Tryz.underlying90
  a25 := Tryz.isAgg90
  z25 := Tryz.sizeOf90
  v25 := Tryz.zeroValue90
  t39 := Tryz.underlying125
  a39 := Tryz.isAgg125
  z39 := Tryz.sizeOf125
  v39 := Tryz.zeroValue125
  t45 := Tryz.underlying138
  a45 := Tryz.isAgg138
  z45 := Tryz.sizeOf138
  v45 := Tryz.zeroValue138
  t46 := Tryz.underlying139
  a46 := Tryz.isAgg139
  z46 := Tryz.sizeOf139
  v46 := Tryz.zeroValue139
  t50 := Tryz.underlying143
  a50 := Tryz.isAgg143
  z50 := Tryz.sizeOf143
  v50 := Tryz.zeroValue143
  t53 := Tryz.underlying146
  a53 := Tryz.isAgg146
  z53 := Tryz.sizeOf146
  v53 := Tryz.zeroValue146
  t55 := Tryz.underlying148
  a55 := Tryz.isAgg148
  z55 := Tryz.sizeOf148
  v55 := Tryz.zeroValue148
  t66 := Tryz.underlying162
  a66 := Tryz.isAgg162
  z66 := Tryz.sizeOf162
  v66 := Tryz.zeroValue162
  t70 := Tryz.underlying166
  a70 := Tryz.isAgg166
  z70 := Tryz.sizeOf166
  v70 := Tryz.zeroValue166
  t76 := Tryz.underlying171
  a76 := Tryz.isAgg171
  z76 := Tryz.sizeOf171
  v76 := Tryz.zeroValue171
  t77 := Tryz.underlying98
  a77 := Tryz.isAgg98
  z77 := Tryz.sizeOf98
  v77 := Tryz.zeroValue98

/-- An object's cells as the model has them. -/
def encV (o : Obj) : List Value := [.string o.name.lib, .string o.name.name, .int .i64 o.name.type, .string o.owner, .int .i64 o.seg, .string o.text, .string o.content]
def cmpO (a b : Obj) : Int := cmpN a.name b.name

theorem rel_encV {G : Gh} {w : World} {o : Obj} {j : Nat} {a : AV} {v : Value} (ha : (encObj o)[j]? = some a) (h : VRel G w a v) : (encV o)[j]? = some v := by
  match j, ha with
  | 0, ha => cases ha; cases h; rfl
  | 1, ha => cases ha; cases h; rfl
  | 2, ha => cases ha; cases h; rfl
  | 3, ha => cases ha; cases h; rfl
  | 4, ha => cases ha; cases h; rfl
  | 5, ha => cases ha; cases h; rfl
  | 6, ha => cases ha; cases h; rfl
  | j + 7, ha => simp [encObj] at ha
theorem encV_rel (G : Gh) (w : World) {o : Obj} {j : Nat} {a : AV} {v : Value} (ha : (encObj o)[j]? = some a) (hv : (encV o)[j]? = some v) : VRel G w a v := by
  match j, ha, hv with
  | 0, ha, hv => cases ha; cases hv; exact .str _
  | 1, ha, hv => cases ha; cases hv; exact .str _
  | 2, ha, hv => cases ha; cases hv; exact .int _ _
  | 3, ha, hv => cases ha; cases hv; exact .str _
  | 4, ha, hv => cases ha; cases hv; exact .int _ _
  | 5, ha, hv => cases ha; cases hv; exact .str _
  | 6, ha, hv => cases ha; cases hv; exact .str _
  | j + 7, ha, hv => simp [encObj] at ha

theorem grow_of {w w' : World} (h : BelowD w w') : ∃ q os, w' = Sort.grow (w.drewN q) os := by
  refine ⟨w'.drawn - w.drawn, w'.heap.extract w.heap.size w'.heap.size, ?_⟩
  have hh : w'.heap = w.heap ++ w'.heap.extract w.heap.size w'.heap.size := by
    apply Array.ext_getElem?
    intro k
    by_cases hk : k < w.heap.size
    · rw [h.block k hk, Array.getElem?_append_left hk]
    · rw [Array.getElem?_append_right (by omega), Array.getElem?_extract]
      have hs := h.size
      split
      · congr 1; omega
      · rw [Array.getElem?_eq_none (by omega)]
  obtain ⟨h1, t1, d1, o1, u1⟩ := w
  obtain ⟨h2, t2, d2, o2, u2⟩ := w'
  have e1 : t2 = t1 := h.tape
  have e2 : o2 = o1 := h.os
  have e3 : u2 = u1 := h.output
  have e4 : d1 ≤ d2 := h.dr
  subst e1 e2 e3
  simp only [Sort.grow, World.drewN, World.mk.injEq, true_and, and_true] at hh ⊢
  exact ⟨hh, by omega⟩
end Go.Proofs.YtppjmigiogddpaaGreat.C08
