/- Chapter 8: how the laws' arguments read. -/
import Derived.Test.YtcmnbfpcomcejaaD0
import Derived.Test.YtcmnbfpcomcejaaRows
import Derived.WalkKit
import Derived.ProofKit
import Derived.OpenShut
import Derived.ShutString
import Derived.ChangeOld
import Derived.SizedLaws
namespace Go.Proofs.Ytcmnbfpcomcejaa.C08
open Go Go.Proofs Go.Proofs.Ytcmnbfpcomcejaa.Ab

theorem ownKnob : ownKnob Try.prog.godebug = none := by kernel_rfl
theorem laidOut : laidOutB Try.prog = true := by kernel_rfl

theorem rdI : Rd Try.prog 3 1 (fun n : Int => [.int .i64 n]) (fun _ => True) := (Rd.int Try.underlying3 (by kernel_rfl)).map id (fun _ => rfl) (fun b => ⟨b, rfl⟩) fun _ _ => trivial
theorem rdS : Rd Try.prog 9 1 encStr (fun _ => True) := (Rd.str Try.underlying9 (by kernel_rfl)).map id (fun _ => rfl) (fun b => ⟨b, rfl⟩) fun _ _ => trivial
theorem rdOName : Rd Try.prog 23 3 encOName (fun _ => True) :=
  (Rd.struct Try.underlying23 (by kernel_rfl) (.cons rfl rdS (.cons rfl rdS (.cons rfl rdI (.nil 3))))).map (fun p => (⟨p.1, p.2.1, p.2.2.1⟩ : OName)) (fun _ => rfl) (fun b => ⟨(b.lib, b.name, b.type, ()), rfl⟩) fun _ _ => trivial
theorem rdObj : Rd Try.prog 25 7 encObj (fun _ => True) :=
  (Rd.struct Try.underlying25 (by kernel_rfl) (.cons rfl rdOName (.cons rfl rdS (.cons rfl rdI (.cons rfl rdS (.cons rfl rdS (.nil 7))))))).map (fun p => (⟨p.1, p.2.1, p.2.2.1, p.2.2.2.1, p.2.2.2.2.1⟩ : Obj)) (fun _ => rfl) (fun b => ⟨(b.name, b.owner, b.seg, b.text, b.content, ()), rfl⟩) fun _ _ => trivial
theorem rdObjs : Rd Try.prog 35 1 (fun l : List Obj => [.sl (l.map encObj)]) (fun _ => True) := (Rd.slice Try.underlying35 (by kernel_rfl) (by decide) rdObj).map id (fun _ => rfl) (fun b => ⟨b, rfl⟩) fun _ _ => trivial
theorem rdDir : Rd Try.prog 37 2 encDir (fun _ => True) :=
  (Rd.struct Try.underlying37 (by kernel_rfl) (.cons rfl rdObjs (.cons rfl rdI (.nil 2)))).map (fun p => (⟨p.1, p.2.1⟩ : Dir)) (fun _ => rfl) (fun b => ⟨(b.objects, b.next, ()), rfl⟩) fun _ _ => trivial
theorem rdAction : Rd Try.prog 50 9 encAction (fun _ => True) :=
  (Rd.struct Try.underlying50 (by kernel_rfl) (.cons rfl rdI (.cons rfl rdObj (.cons rfl rdS (.nil 9))))).map (fun p => (⟨p.1, p.2.1, p.2.2.1⟩ : Action)) (fun _ => rfl) (fun b => ⟨(b.kind, b.object, b.name, ()), rfl⟩) fun _ _ => trivial

theorem rdActions : Rd Try.prog 77 1 (fun l : List Action => [.sl (l.map encAction)]) (fun _ => True) := (Rd.slice Try.underlying77 (by kernel_rfl) (by decide) rdAction).map id (fun _ => rfl) (fun b => ⟨b, rfl⟩) fun _ _ => trivial
theorem aActions : Arg Try.prog 77 (fun l : List Action => .sl (l.map encAction)) (fun _ => True) := Arg.one rdActions (by rw [Try.underlying77]; simp) (by rw [Try.underlying77]; simp)
theorem aDir : Arg Try.prog 37 (fun s : Dir => .agg (encDir s)) (fun _ => True) := Arg.agg rdDir Try.underlying37
theorem aObj : Arg Try.prog 25 (fun r : Obj => .agg (encObj r)) (fun _ => True) := Arg.agg rdObj Try.underlying25
theorem aOName : Arg Try.prog 23 (fun r : OName => .agg (encOName r)) (fun _ => True) := Arg.agg rdOName Try.underlying23
theorem aAction : Arg Try.prog 50 (fun r : Action => .agg (encAction r)) (fun _ => True) := Arg.agg rdAction Try.underlying50
theorem aStr : Arg Try.prog 9 (fun r : ByteArray => .str r) (fun _ => True) := Arg.one rdS (by rw [Try.underlying9]; simp) (by rw [Try.underlying9]; simp)
theorem aInt : Arg Try.prog 3 (fun r : Int => .int .i64 r) (fun _ => True) := Arg.one rdI (by rw [Try.underlying3]; simp) (by rw [Try.underlying3]; simp)
end Go.Proofs.Ytcmnbfpcomcejaa.C08
