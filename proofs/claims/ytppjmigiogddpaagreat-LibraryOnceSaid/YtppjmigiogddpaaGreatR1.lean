/- Chapter 9: how the steps of the law of resolving read. -/
import Derived.Test.YtppjmigiogddpaaGreatR0
import Derived.Test.YtppjmigiogddpaaGreatQ1
namespace Go.Proofs.YtppjmigiogddpaaGreat.C08
open Go Go.Proofs Go.Proofs.YtppjmigiogddpaaGreat.Ab

theorem rdU8 : Rd Tryz.prog 5 1 (fun n : Int => [.int .u8 n]) (fun _ => True) := (Rd.int Tryz.underlying5 (by kernel_rfl)).map id (fun _ => rfl) (fun b => ⟨b, rfl⟩) fun _ _ => trivial
theorem rdStep : Rd Tryz.prog 57 7 encStep (fun _ => True) :=
  (Rd.struct Tryz.underlying57 (by kernel_rfl) (.cons rfl rdU8 (.cons rfl rdOName (.cons rfl rdOName (.nil 7))))).map (fun p => (⟨p.1, p.2.1, p.2.2.1⟩ : LStep)) (fun _ => rfl) (fun b => ⟨(b.kind, b.src, b.dst, ()), rfl⟩) fun _ _ => trivial
theorem rdSteps : Rd Tryz.prog 50 1 (fun l : List LStep => [.sl (l.map encStep)]) (fun _ => True) := (Rd.slice Tryz.underlying50 (by kernel_rfl) (by decide) rdStep).map id (fun _ => rfl) (fun b => ⟨b, rfl⟩) fun _ _ => trivial
theorem aSteps : Arg Tryz.prog 50 (fun l : List LStep => .sl (l.map encStep)) (fun _ => True) := Arg.one rdSteps (by rw [Tryz.underlying50]; simp) (by rw [Tryz.underlying50]; simp)
end Go.Proofs.YtppjmigiogddpaaGreat.C08
