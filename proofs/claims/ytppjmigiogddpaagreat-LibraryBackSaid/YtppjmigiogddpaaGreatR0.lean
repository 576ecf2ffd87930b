/- Chapter 9: how the laws' arguments read. -/
import Derived.Test.YtppjmigiogddpaaGreatD0
import Derived.Test.YtppjmigiogddpaaGreatRows
import Derived.WalkKit
import Derived.ProofKit
import Derived.OpenShut
import Derived.ShutString
import Derived.ChangeOld
import Derived.SizedLaws
namespace Go.Proofs.YtppjmigiogddpaaGreat.C08
open Go Go.Proofs Go.Proofs.YtppjmigiogddpaaGreat.Ab

theorem ownKnob : ownKnob Tryz.prog.godebug = none := by kernel_rfl
theorem laidOut : laidOutB Tryz.prog = true := by kernel_rfl

theorem rdI : Rd Tryz.prog 3 1 (fun n : Int => [.int .i64 n]) (fun _ => True) := (Rd.int Tryz.underlying3 (by kernel_rfl)).map id (fun _ => rfl) (fun b => ⟨b, rfl⟩) fun _ _ => trivial
theorem rdB : Rd Tryz.prog 4 1 (fun n : Bool => [.bool n]) (fun _ => True) := (Rd.bool Tryz.underlying4 (by kernel_rfl)).map id (fun _ => rfl) (fun b => ⟨b, rfl⟩) fun _ _ => trivial
theorem rdS : Rd Tryz.prog 9 1 encStr (fun _ => True) := (Rd.str Tryz.underlying9 (by kernel_rfl)).map id (fun _ => rfl) (fun b => ⟨b, rfl⟩) fun _ _ => trivial
theorem rdOName : Rd Tryz.prog 26 3 encOName (fun _ => True) :=
  (Rd.struct Tryz.underlying26 (by kernel_rfl) (.cons rfl rdS (.cons rfl rdS (.cons rfl rdI (.nil 3))))).map (fun p => (⟨p.1, p.2.1, p.2.2.1⟩ : OName)) (fun _ => rfl) (fun b => ⟨(b.lib, b.name, b.type, ()), rfl⟩) fun _ _ => trivial
theorem rdObj : Rd Tryz.prog 41 7 encObj (fun _ => True) :=
  (Rd.struct Tryz.underlying41 (by kernel_rfl) (.cons rfl rdOName (.cons rfl rdS (.cons rfl rdI (.cons rfl rdS (.cons rfl rdS (.nil 7))))))).map (fun p => (⟨p.1, p.2.1, p.2.2.1, p.2.2.2.1, p.2.2.2.2.1⟩ : Obj)) (fun _ => rfl) (fun b => ⟨(b.name, b.owner, b.seg, b.text, b.content, ()), rfl⟩) fun _ _ => trivial
theorem rdObjs : Rd Tryz.prog 22 1 (fun l : List Obj => [.sl (l.map encObj)]) (fun _ => True) := (Rd.slice Tryz.underlying22 (by kernel_rfl) (by decide) rdObj).map id (fun _ => rfl) (fun b => ⟨b, rfl⟩) fun _ _ => trivial
theorem rdDir : Rd Tryz.prog 24 2 encDir (fun _ => True) :=
  (Rd.struct Tryz.underlying24 (by kernel_rfl) (.cons rfl rdObjs (.cons rfl rdI (.nil 2)))).map (fun p => (⟨p.1, p.2.1⟩ : Dir)) (fun _ => rfl) (fun b => ⟨(b.objects, b.next, ()), rfl⟩) fun _ _ => trivial
theorem rdStrs : Rd Tryz.prog 51 1 (fun l : List ByteArray => [.sl (l.map encStr)]) (fun _ => True) := (Rd.slice Tryz.underlying51 (by kernel_rfl) (by decide) rdS).map id (fun _ => rfl) (fun b => ⟨b, rfl⟩) fun _ _ => trivial
theorem rdLL : Rd Tryz.prog 53 3 encLL (fun _ => True) :=
  (Rd.struct Tryz.underlying53 (by kernel_rfl) (.cons rfl rdStrs (.cons rfl rdS (.cons rfl rdStrs (.nil 3))))).map (fun p => (⟨p.1, p.2.1, p.2.2.1⟩ : LList)) (fun _ => rfl) (fun b => ⟨(b.system, b.current, b.user, ()), rfl⟩) fun _ _ => trivial
theorem rdQ : Rd Tryz.prog 47 3 encQ (fun _ => True) :=
  (Rd.struct Tryz.underlying47 (by kernel_rfl) (.cons rfl rdS (.cons rfl rdS (.cons rfl rdB (.nil 3))))).map (fun p => (⟨p.1, p.2.1, p.2.2.1⟩ : QName)) (fun _ => rfl) (fun b => ⟨(b.lib, b.name, b.generic, ()), rfl⟩) fun _ _ => trivial
theorem rdReso : Rd Tryz.prog 49 4 encReso (fun _ => True) :=
  (Rd.struct Tryz.underlying49 (by kernel_rfl) (.cons rfl rdQ (.cons rfl rdI (.nil 4)))).map (fun p => (⟨p.1, p.2.1⟩ : Reso)) (fun _ => rfl) (fun b => ⟨(b.name, b.type, ()), rfl⟩) fun _ _ => trivial

theorem aDir : Arg Tryz.prog 24 (fun s : Dir => .agg (encDir s)) (fun _ => True) := Arg.agg rdDir Tryz.underlying24
theorem aLL : Arg Tryz.prog 53 (fun s : LList => .agg (encLL s)) (fun _ => True) := Arg.agg rdLL Tryz.underlying53
theorem aQN : Arg Tryz.prog 47 (fun s : QName => .agg (encQ s)) (fun _ => True) := Arg.agg rdQ Tryz.underlying47
theorem aReso : Arg Tryz.prog 49 (fun s : Reso => .agg (encReso s)) (fun _ => True) := Arg.agg rdReso Tryz.underlying49
theorem aOName : Arg Tryz.prog 26 (fun r : OName => .agg (encOName r)) (fun _ => True) := Arg.agg rdOName Tryz.underlying26
theorem aStr : Arg Tryz.prog 9 (fun r : ByteArray => .str r) (fun _ => True) := Arg.one rdS (by rw [Tryz.underlying9]; simp) (by rw [Tryz.underlying9]; simp)
theorem aInt : Arg Tryz.prog 3 (fun r : Int => .int .i64 r) (fun _ => True) := Arg.one rdI (by rw [Tryz.underlying3]; simp) (by rw [Tryz.underlying3]; simp)
end Go.Proofs.YtppjmigiogddpaaGreat.C08
