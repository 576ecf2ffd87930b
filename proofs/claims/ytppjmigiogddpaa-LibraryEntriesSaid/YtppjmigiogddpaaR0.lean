/- Chapter 9: how the laws' arguments read. -/
import Derived.Test.YtppjmigiogddpaaD0
import Derived.Test.YtppjmigiogddpaaRows
import Derived.WalkKit
import Derived.ProofKit
import Derived.OpenShut
import Derived.ShutString
import Derived.ChangeOld
import Derived.SizedLaws
namespace Go.Proofs.Ytppjmigiogddpaa.C08
open Go Go.Proofs Go.Proofs.Ytppjmigiogddpaa.Ab

theorem ownKnob : ownKnob Try.prog.godebug = none := by kernel_rfl
theorem laidOut : laidOutB Try.prog = true := by kernel_rfl

theorem rdI : Rd Try.prog 3 1 (fun n : Int => [.int .i64 n]) (fun _ => True) := (Rd.int Try.underlying3 (by kernel_rfl)).map id (fun _ => rfl) (fun b => ⟨b, rfl⟩) fun _ _ => trivial
theorem rdB : Rd Try.prog 4 1 (fun n : Bool => [.bool n]) (fun _ => True) := (Rd.bool Try.underlying4 (by kernel_rfl)).map id (fun _ => rfl) (fun b => ⟨b, rfl⟩) fun _ _ => trivial
theorem rdS : Rd Try.prog 9 1 encStr (fun _ => True) := (Rd.str Try.underlying9 (by kernel_rfl)).map id (fun _ => rfl) (fun b => ⟨b, rfl⟩) fun _ _ => trivial
theorem rdOName : Rd Try.prog 62 3 encOName (fun _ => True) :=
  (Rd.struct Try.underlying62 (by kernel_rfl) (.cons rfl rdS (.cons rfl rdS (.cons rfl rdI (.nil 3))))).map (fun p => (⟨p.1, p.2.1, p.2.2.1⟩ : OName)) (fun _ => rfl) (fun b => ⟨(b.lib, b.name, b.type, ()), rfl⟩) fun _ _ => trivial
theorem rdObj : Rd Try.prog 64 7 encObj (fun _ => True) :=
  (Rd.struct Try.underlying64 (by kernel_rfl) (.cons rfl rdOName (.cons rfl rdS (.cons rfl rdI (.cons rfl rdS (.cons rfl rdS (.nil 7))))))).map (fun p => (⟨p.1, p.2.1, p.2.2.1, p.2.2.2.1, p.2.2.2.2.1⟩ : Obj)) (fun _ => rfl) (fun b => ⟨(b.name, b.owner, b.seg, b.text, b.content, ()), rfl⟩) fun _ _ => trivial
theorem rdObjs : Rd Try.prog 36 1 (fun l : List Obj => [.sl (l.map encObj)]) (fun _ => True) := (Rd.slice Try.underlying36 (by kernel_rfl) (by decide) rdObj).map id (fun _ => rfl) (fun b => ⟨b, rfl⟩) fun _ _ => trivial
theorem rdDir : Rd Try.prog 38 2 encDir (fun _ => True) :=
  (Rd.struct Try.underlying38 (by kernel_rfl) (.cons rfl rdObjs (.cons rfl rdI (.nil 2)))).map (fun p => (⟨p.1, p.2.1⟩ : Dir)) (fun _ => rfl) (fun b => ⟨(b.objects, b.next, ()), rfl⟩) fun _ _ => trivial
theorem rdStrs : Rd Try.prog 39 1 (fun l : List ByteArray => [.sl (l.map encStr)]) (fun _ => True) := (Rd.slice Try.underlying39 (by kernel_rfl) (by decide) rdS).map id (fun _ => rfl) (fun b => ⟨b, rfl⟩) fun _ _ => trivial
theorem rdLL : Rd Try.prog 41 3 encLL (fun _ => True) :=
  (Rd.struct Try.underlying41 (by kernel_rfl) (.cons rfl rdStrs (.cons rfl rdS (.cons rfl rdStrs (.nil 3))))).map (fun p => (⟨p.1, p.2.1, p.2.2.1⟩ : LList)) (fun _ => rfl) (fun b => ⟨(b.system, b.current, b.user, ()), rfl⟩) fun _ _ => trivial
theorem rdQ : Rd Try.prog 23 3 encQ (fun _ => True) :=
  (Rd.struct Try.underlying23 (by kernel_rfl) (.cons rfl rdS (.cons rfl rdS (.cons rfl rdB (.nil 3))))).map (fun p => (⟨p.1, p.2.1, p.2.2.1⟩ : QName)) (fun _ => rfl) (fun b => ⟨(b.lib, b.name, b.generic, ()), rfl⟩) fun _ _ => trivial
theorem rdReso : Rd Try.prog 56 4 encReso (fun _ => True) :=
  (Rd.struct Try.underlying56 (by kernel_rfl) (.cons rfl rdQ (.cons rfl rdI (.nil 4)))).map (fun p => (⟨p.1, p.2.1⟩ : Reso)) (fun _ => rfl) (fun b => ⟨(b.name, b.type, ()), rfl⟩) fun _ _ => trivial
theorem rdLE : Rd Try.prog 81 3 encLE (fun _ => True) :=
  (Rd.struct Try.underlying81 (by kernel_rfl) (.cons rfl rdS (.cons rfl rdI (.cons rfl rdS (.nil 3))))).map (fun p => (⟨p.1, p.2.1, p.2.2.1⟩ : LEntry)) (fun _ => rfl) (fun b => ⟨(b.lib, b.pos, b.ref, ()), rfl⟩) fun _ _ => trivial

theorem aDir : Arg Try.prog 38 (fun s : Dir => .agg (encDir s)) (fun _ => True) := Arg.agg rdDir Try.underlying38
theorem aLL : Arg Try.prog 41 (fun s : LList => .agg (encLL s)) (fun _ => True) := Arg.agg rdLL Try.underlying41
theorem aQN : Arg Try.prog 23 (fun s : QName => .agg (encQ s)) (fun _ => True) := Arg.agg rdQ Try.underlying23
theorem aReso : Arg Try.prog 56 (fun s : Reso => .agg (encReso s)) (fun _ => True) := Arg.agg rdReso Try.underlying56
theorem aLE : Arg Try.prog 81 (fun s : LEntry => .agg (encLE s)) (fun _ => True) := Arg.agg rdLE Try.underlying81
theorem aOName : Arg Try.prog 62 (fun r : OName => .agg (encOName r)) (fun _ => True) := Arg.agg rdOName Try.underlying62
theorem aStr : Arg Try.prog 9 (fun r : ByteArray => .str r) (fun _ => True) := Arg.one rdS (by rw [Try.underlying9]; simp) (by rw [Try.underlying9]; simp)
theorem aInt : Arg Try.prog 3 (fun r : Int => .int .i64 r) (fun _ => True) := Arg.one rdI (by rw [Try.underlying3]; simp) (by rw [Try.underlying3]; simp)
end Go.Proofs.Ytppjmigiogddpaa.C08
