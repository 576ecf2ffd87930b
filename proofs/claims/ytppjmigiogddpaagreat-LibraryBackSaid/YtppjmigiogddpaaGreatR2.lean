/- Chapter 9: how the rounds of the law of round trips read. -/
import Derived.Test.YtppjmigiogddpaaGreatR0
import Derived.Test.YtppjmigiogddpaaGreatE28
namespace Go.Proofs.YtppjmigiogddpaaGreat.C08
open Go Go.Proofs Go.Proofs.YtppjmigiogddpaaGreat.Ab

theorem rdLE : Rd Tryz.prog 65 3 encLE (fun _ => True) :=
  (Rd.struct Tryz.underlying65 (by kernel_rfl) (.cons rfl rdS (.cons rfl rdI (.cons rfl rdS (.nil 3))))).map (fun p => (⟨p.1, p.2.1, p.2.2.1⟩ : LEntry)) (fun _ => rfl) (fun b => ⟨(b.lib, b.pos, b.ref, ()), rfl⟩) fun _ _ => trivial
theorem rdRound : Rd Tryz.prog 67 8 encRound (fun _ => True) :=
  (Rd.struct Tryz.underlying67 (by kernel_rfl) (.cons rfl rdDir (.cons rfl rdLL (.cons rfl rdLE (.nil 8))))).map (fun p => (⟨p.1, p.2.1, p.2.2.1⟩ : Round)) (fun _ => rfl) (fun b => ⟨(b.d, b.l, b.x, ()), rfl⟩) fun _ _ => trivial
theorem aRound : Arg Tryz.prog 67 (fun s : Round => .agg (encRound s)) (fun _ => True) := Arg.agg rdRound Tryz.underlying67
end Go.Proofs.YtppjmigiogddpaaGreat.C08
