/- More equations of the run. -/
import Derived.Test.YtbhgehhmjpipiaaGreatAb17
namespace Go.Proofs.YtbhgehhmjpipiaaGreat.Ab
set_option linter.unusedSimpArgs false
set_option linter.unusedVariables false
open Go Go.RowKit
set_option linter.unusedSectionVars false
variable [Inhabited DW]

theorem optArr_none {α : Type} : (none : Option α).toArray.toList = [] := rfl
theorem optArr_some {α : Type} (x : α) : (some x).toArray.toList = [x] := rfl
theorem toNat_zero' : Int.toNat 0 = 0 := rfl
theorem toNat_one' : Int.toNat 1 = 1 := rfl
theorem take_map' {α β : Type} {f : α → β} {l : List α} {n : Nat} : (l.map f).take n = (l.take n).map f := List.map_take.symm
theorem drop_map' {α β : Type} {f : α → β} {l : List α} {n : Nat} : (l.map f).drop n = (l.drop n).map f := List.map_drop.symm
theorem append_map' {α β : Type} {f : α → β} {l m : List α} : l.map f ++ m.map f = (l ++ m).map f := List.map_append.symm
theorem cast_zero' : ((0 : Nat) : Int) = 0 := rfl
theorem cast_one' : ((1 : Nat) : Int) = 1 := rfl
attribute [go_sem] Int.cast_ofNat_Int cast_zero' cast_one' optArr_none optArr_some toNat_zero' toNat_one' Int.ofNat_le take_map' drop_map' append_map'

theorem Ans.le {P : Program} {f : FuncId} {args : List AV} {r r' : AV} (h : Ans P f args r) (hr : AVle r r') (hp : r'.pureR = true) : Ans P f args r' := by
  refine ⟨h.1, hp, fun w Pr vs h1 h2 h3 => (h.2.2 w Pr vs h1 h2 h3).mono fun e w' ⟨v, Pr', k1, k2, k3⟩ => ⟨v, Pr', k1, k2.le hr, k3⟩⟩

theorem Ans.args {P : Program} {f : FuncId} {args args' : List AV} {r : AV} (h : Ans P f args' r) (ha : CellsLe args args') : Ans P f args r := by
  refine ⟨h.1, h.2.1, fun w Pr vs h1 h2 h3 => h.2.2 w Pr vs (by rw [h1, ha.1]) (fun i a v k1 k2 => ?_) h3⟩
  obtain ⟨x, hx⟩ := pair_get ha.1 k1
  exact (h2 i x v hx k2).le (ha.2 i x a hx k1)

end Go.Proofs.YtbhgehhmjpipiaaGreat.Ab
