/- Chapter 12: the table of the fields that operations use, read as the program's text lays it. -/
import Derived.Test.YtbhgehhmjpipiaaGreatDoorR0
import Derived.LaidMore
import Derived.Stop.Joined
namespace Go.Proofs.YtbhgehhmjpipiaaGreatDoor.C12
open Go Go.Proofs Go.Proofs.YtbhgehhmjpipiaaGreatDoor.Ab Go.Proofs.YtbhgehhmjpipiaaGreatDoor.C10 Go.ChangeShapes Go.WideShapes Go.ChangeAt Go.WideMaps Go.WideElems Go.RowKit
abbrev laidU : List (String × DataW Unit) := [("midrange/pointer.uses", Rows.laid_midrange_pointer_uses)]
theorem gUses : Tryz.prog.globalNamed "midrange/pointer.uses" = some 0 := by kernel_rfl
theorem tUses : (Tryz.prog.globals[0]?).map (·.type) = some 181 := by kernel_rfl
theorem door_met (os : Os) (args : Array Value) : laidMetH Tryz.prog laidU ((World.doorLaid Tryz.prog 400 os).forCall (fun _ _ => 0) ⟨#[], args, []⟩).memory :=
 laidMetH_of_parts3 (fuel := 8) (laidMet_of_run' 8 (by kernel_rfl) (by kernel_rfl)) (by kernel_rfl) (by kernel_rfl)
def bitsRow (k : Nat) : List Bool := match k with
 | 0 => [false, true, false, false, true, false]
 | 1 => [false, false, false, true, false, false]
 | 2 => [true, true, false, false, false, false]
 | 3 => [true, true, false, false, false, false]
 | 4 => [true, false, false, false, false, true]
 | 5 => [true, true, false, false, false, false]
 | 6 => [true, true, true, false, false, false]
 | 7 => [true, true, true, false, false, false]
 | _ => [false, false, true, true, false, false]
def usesB : List Bool := bitsRow 0 ++ bitsRow 1 ++ bitsRow 2 ++ bitsRow 3 ++ bitsRow 4 ++ bitsRow 5 ++ bitsRow 6 ++ bitsRow 7 ++ bitsRow 8
theorem usesL_eq : usesL = usesB.map AV.bool := rfl
theorem laid_eq : Rows.laid_midrange_pointer_uses = (DataW.agg ((List.range 9).map fun k => DataW.agg ((bitsRow k).map fun b => DataW.lit (.bool b))) : DataW Unit) := rfl
set_option maxRecDepth 100000 in
theorem row6 {w : World} {fuel : Nat} {cs : List Value} {y : DataW Unit × List MemPlace} {l : List Bool} (hl : l.length = 6) (h : DataW.trod (fun _ => ()) Tryz.prog w 0 (fun _ => true) false fuel 180 cs = some y) (hy : y.1 = DataW.agg (l.map fun b => DataW.lit (.bool b))) : cs = l.map Value.bool := by
 obtain ⟨ys, n, -, rfl, hcl, hlen, hf⟩ := DataW.trod_struct Tryz.underlying180 h
 have c6 : Tryz.prog.cellsOf 180 = 6 := by kernel_rfl
 have c1 : Tryz.prog.cellsOf 4 = 1 := by kernel_rfl
 rw [c6] at hcl
 match l, hl, ys, hlen, cs, hcl with
 | [l0, l1, l2, l3, l4, l5], _, [y0, y1, y2, y3, y4, y5], _, [v0, v1, v2, v3, v4, v5], _ =>
   have h0 : DataW.trod (fun _ => ()) Tryz.prog w 0 (fun _ => true) false n 4 (([v0, v1, v2, v3, v4, v5].drop 0).take (Tryz.prog.cellsOf 4)) = some y0 := hf 0 _ rfl
   have h1 : DataW.trod (fun _ => ()) Tryz.prog w 0 (fun _ => true) false n 4 (([v0, v1, v2, v3, v4, v5].drop 1).take (Tryz.prog.cellsOf 4)) = some y1 := hf 1 _ rfl
   have h2 : DataW.trod (fun _ => ()) Tryz.prog w 0 (fun _ => true) false n 4 (([v0, v1, v2, v3, v4, v5].drop 2).take (Tryz.prog.cellsOf 4)) = some y2 := hf 2 _ rfl
   have h3 : DataW.trod (fun _ => ()) Tryz.prog w 0 (fun _ => true) false n 4 (([v0, v1, v2, v3, v4, v5].drop 3).take (Tryz.prog.cellsOf 4)) = some y3 := hf 3 _ rfl
   have h4 : DataW.trod (fun _ => ()) Tryz.prog w 0 (fun _ => true) false n 4 (([v0, v1, v2, v3, v4, v5].drop 4).take (Tryz.prog.cellsOf 4)) = some y4 := hf 4 _ rfl
   have h5 : DataW.trod (fun _ => ()) Tryz.prog w 0 (fun _ => true) false n 4 (([v0, v1, v2, v3, v4, v5].drop 5).take (Tryz.prog.cellsOf 4)) = some y5 := hf 5 _ rfl
   rw [c1] at h0 h1 h2 h3 h4 h5
   obtain ⟨b0, e0, q0⟩ := DataW.trod_bool Tryz.underlying4 h0
   obtain ⟨b1, e1, q1⟩ := DataW.trod_bool Tryz.underlying4 h1
   obtain ⟨b2, e2, q2⟩ := DataW.trod_bool Tryz.underlying4 h2
   obtain ⟨b3, e3, q3⟩ := DataW.trod_bool Tryz.underlying4 h3
   obtain ⟨b4, e4, q4⟩ := DataW.trod_bool Tryz.underlying4 h4
   obtain ⟨b5, e5, q5⟩ := DataW.trod_bool Tryz.underlying4 h5
   subst q0 q1 q2 q3 q4 q5
   simp at e0 e1 e2 e3 e4 e5 hy
   simp [e0, e1, e2, e3, e4, e5, hy]
theorem cut6 {α : Type} (cs : List α) (k : Nat) : cs.drop k = (cs.drop k).take 6 ++ cs.drop (k + 6) := by
 have := List.take_append_drop 6 (cs.drop k)
 rw [List.drop_drop] at this
 exact this.symm
theorem cells_uses {w : World} {fuel : Nat} {cs : List Value} {x : DataW Unit × List MemPlace} (h : DataW.trod (fun _ => ()) Tryz.prog w 0 (fun _ => true) false fuel 181 cs = some x) (hx : x.1 = Rows.laid_midrange_pointer_uses) : cs = usesB.map Value.bool := by
 obtain ⟨xs, m, -, rfl, hlen, hn, hel⟩ := DataW.trod_array Tryz.underlying181 h
 have c54 : Tryz.prog.cellsOf 181 = 54 := by kernel_rfl
 have c6 : Tryz.prog.cellsOf 180 = 6 := by kernel_rfl
 rw [c54] at hlen
 rw [c6] at hel
 rw [laid_eq] at hx
 simp only [DataW.agg.injEq] at hx
 have hr : ∀ k, k < 9 → (cs.drop (k * 6)).take 6 = (bitsRow k).map Value.bool := fun k hk => by
  have h1 := hel k hk
  have hxk : k < xs.length := by omega
  rw [List.getElem?_eq_getElem hxk] at h1
  refine row6 (by match k, hk with | 0, _ | 1, _ | 2, _ | 3, _ | 4, _ | 5, _ | 6, _ | 7, _ | 8, _ => rfl) h1 ?_
  have h2 := congrArg (fun l => l[k]?) hx
  simp only [List.getElem?_map, List.getElem?_eq_getElem hxk, Option.map_some, List.getElem?_range hk, Option.some.injEq] at h2
  exact h2
 have e0 := cut6 cs 0
 rw [List.drop_zero] at e0
 have h0 := hr 0 (by decide)
 rw [Nat.zero_mul, List.drop_zero] at h0
 have e54 : cs.drop 54 = [] := List.drop_eq_nil_of_le (by omega)
 rw [e0, h0, cut6 cs 6, hr 1 (by decide), cut6 cs 12, hr 2 (by decide), cut6 cs 18, hr 3 (by decide), cut6 cs 24, hr 4 (by decide), cut6 cs 30, hr 5 (by decide), cut6 cs 36, hr 6 (by decide), cut6 cs 42, hr 7 (by decide), cut6 cs 48, hr 8 (by decide), e54]
 rfl
theorem gl_of {W : World} (h : laidMetH Tryz.prog laidU W) : Gl (allG W).pr W := by
 rw [MakeChecks.laidMetH_plain _ _ _ (by kernel_rfl)] at h
 obtain ⟨ps, ⟨g0, t0, cs0, f0, p0, q0, hg0, ht0, hv0, hd0, _⟩, _, _⟩ := h
 obtain rfl := Option.some.inj (gUses.symm.trans hg0)
 obtain rfl := Option.some.inj (tUses.symm.trans ht0)
 have hcs := cells_uses hd0 rfl
 have hcell : ∀ (j : Nat) (b : Bool), usesB[j]? = some b → W.cell? ⟨0, j, none⟩ = some (.bool b) := fun j b hj => by
  have := World.var?_cell hg0 hv0 j
  rw [this, ← Array.getElem?_toList, hcs, List.getElem?_map, hj]; rfl
 intro g cs hg
 have hg' : (if g = 0 then some usesL else none) = some cs := hg
 split at hg'
 · rename_i e
   subst e
   cases hg'
   have hb : ∀ (j : Nat) (a : AV), usesL[j]? = some a → ∃ b, usesB[j]? = some b ∧ a = .bool b := fun j a hj => by
    rw [usesL_eq, List.getElem?_map] at hj
    cases hq : usesB[j]? with
    | none => rw [hq] at hj; cases hj
    | some b => rw [hq] at hj; cases hj; exact ⟨b, rfl, rfl⟩
   refine .ptr _ 0 0 (fun j => .bool (usesB.getD j false)) (fun a ha => ?_) (fun j a hj => ?_) (fun j a hj => ?_) (fun j a hj => ?_)
   · obtain ⟨j, hj⟩ := List.mem_iff_getElem?.1 ha
     obtain ⟨b, _, rfl⟩ := hb j a hj
     rfl
   · obtain ⟨b, hj2, rfl⟩ := hb j a hj
     rw [Nat.zero_add, hcell j b hj2, List.getD_eq_getElem?_getD, hj2]; rfl
   · obtain ⟨b, hj2, rfl⟩ := hb j a hj
     have := hcell j b hj2
     show 0 < W.heap.size
     rcases Nat.eq_zero_or_pos W.heap.size with q | q
     · simp [World.cell?, q] at this
     · exact q
   · obtain ⟨b, hj2, rfl⟩ := hb j a hj
     rw [List.getD_eq_getElem?_getD, hj2]; exact .bool _
 · cases hg'
end Go.Proofs.YtbhgehhmjpipiaaGreatDoor.C12
