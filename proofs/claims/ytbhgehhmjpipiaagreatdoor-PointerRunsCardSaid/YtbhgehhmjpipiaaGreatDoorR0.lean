/- Chapter 12: how the laws' arguments read. -/
import Derived.Test.YtbhgehhmjpipiaaGreatDoorD2
import Derived.Test.YtbhgehhmjpipiaaGreatDoorRows
import Derived.WalkKit
import Derived.ProofKit
import Derived.OpenShut
import Derived.ShutString
import Derived.ChangeOld
import Derived.SizedLaws
namespace Go.Proofs.YtbhgehhmjpipiaaGreatDoor.C12
open Go Go.Proofs Go.Proofs.YtbhgehhmjpipiaaGreatDoor.Ab Go.Proofs.YtbhgehhmjpipiaaGreatDoor.C10
theorem ownKnob : ownKnob Tryz.prog.godebug = none := by kernel_rfl
theorem laidOut : laidOutB Tryz.prog = true := by kernel_rfl
theorem rdI : Rd Tryz.prog 3 1 (fun n : Int => [.int .i64 n]) (fun _ => True) := (Rd.int Tryz.underlying3 (by kernel_rfl)).map id (fun _ => rfl) (fun b => ⟨b, rfl⟩) fun _ _ => trivial
theorem rdB : Rd Tryz.prog 4 1 (fun n : Bool => [.bool n]) (fun _ => True) := Rd.bool Tryz.underlying4 (by kernel_rfl)
theorem rdS : Rd Tryz.prog 9 1 encStr (fun _ => True) := (Rd.str Tryz.underlying9 (by kernel_rfl)).map id (fun _ => rfl) (fun b => ⟨b, rfl⟩) fun _ _ => trivial
theorem rdStrs : Rd Tryz.prog 27 1 (fun l : List ByteArray => [.sl (l.map encStr)]) (fun _ => True) := (Rd.slice Tryz.underlying27 (by kernel_rfl) (by decide) rdS).map id (fun _ => rfl) (fun b => ⟨b, rfl⟩) fun _ _ => trivial
theorem rdProf : Rd Tryz.prog 120 3 encProf (fun _ => True) :=
 (Rd.struct Tryz.underlying120 (by kernel_rfl) (.cons rfl rdS (.cons rfl rdStrs (.cons rfl rdI (.nil 3))))).map (fun p => (⟨p.1, p.2.1, p.2.2.1⟩ : Prof)) (fun _ => rfl) (fun b => ⟨(b.name, b.groups, b.special, ()), rfl⟩) fun _ _ => trivial
theorem rdProfs : Rd Tryz.prog 22 1 (fun l : List Prof => [.sl (l.map encProf)]) (fun _ => True) := (Rd.slice Tryz.underlying22 (by kernel_rfl) (by decide) rdProf).map id (fun _ => rfl) (fun b => ⟨b, rfl⟩) fun _ _ => trivial
theorem rdGrant : Rd Tryz.prog 124 2 encGrant (fun _ => True) :=
 (Rd.struct Tryz.underlying124 (by kernel_rfl) (.cons rfl rdS (.cons rfl rdI (.nil 2)))).map (fun p => (⟨p.1, p.2.1⟩ : Grant)) (fun _ => rfl) (fun b => ⟨(b.user, b.auth, ()), rfl⟩) fun _ _ => trivial
theorem rdGrants : Rd Tryz.prog 125 1 (fun l : List Grant => [.sl (l.map encGrant)]) (fun _ => True) := (Rd.slice Tryz.underlying125 (by kernel_rfl) (by decide) rdGrant).map id (fun _ => rfl) (fun b => ⟨b, rfl⟩) fun _ _ => trivial
theorem rdAList : Rd Tryz.prog 130 4 encAList (fun _ => True) :=
 (Rd.struct Tryz.underlying130 (by kernel_rfl) (.cons rfl rdS (.cons rfl rdS (.cons rfl rdGrants (.cons rfl rdI (.nil 4)))))).map (fun p => (⟨p.1, p.2.1, p.2.2.1, p.2.2.2.1⟩ : AList)) (fun _ => rfl) (fun b => ⟨(b.name, b.owner, b.grants, b.pub, ()), rfl⟩) fun _ _ => trivial
theorem rdALists : Rd Tryz.prog 23 1 (fun l : List AList => [.sl (l.map encAList)]) (fun _ => True) := (Rd.slice Tryz.underlying23 (by kernel_rfl) (by decide) rdAList).map id (fun _ => rfl) (fun b => ⟨b, rfl⟩) fun _ _ => trivial
theorem rdOName : Rd Tryz.prog 122 3 encOName (fun _ => True) :=
 (Rd.struct Tryz.underlying122 (by kernel_rfl) (.cons rfl rdS (.cons rfl rdS (.cons rfl rdI (.nil 3))))).map (fun p => (⟨p.1, p.2.1, p.2.2.1⟩ : OName)) (fun _ => rfl) (fun b => ⟨(b.lib, b.name, b.type, ()), rfl⟩) fun _ _ => trivial
theorem rdSecured : Rd Tryz.prog 127 8 encSecured (fun _ => True) :=
 (Rd.struct Tryz.underlying127 (by kernel_rfl) (.cons rfl rdOName (.cons rfl rdS (.cons rfl rdGrants (.cons rfl rdS (.cons rfl rdI (.cons rfl rdB (.nil 8)))))))).map (fun p => (⟨p.1, p.2.1, p.2.2.1, p.2.2.2.1, p.2.2.2.2.1, p.2.2.2.2.2.1⟩ : Secured)) (fun _ => rfl) (fun b => ⟨(b.name, b.owner, b.grants, b.list, b.pub, b.byList, ()), rfl⟩) fun _ _ => trivial
theorem rdSecureds : Rd Tryz.prog 24 1 (fun l : List Secured => [.sl (l.map encSecured)]) (fun _ => True) := (Rd.slice Tryz.underlying24 (by kernel_rfl) (by decide) rdSecured).map id (fun _ => rfl) (fun b => ⟨b, rfl⟩) fun _ _ => trivial
theorem rdSec : Rd Tryz.prog 26 3 encSec (fun _ => True) :=
 (Rd.struct Tryz.underlying26 (by kernel_rfl) (.cons rfl rdProfs (.cons rfl rdALists (.cons rfl rdSecureds (.nil 3))))).map (fun p => (⟨p.1, p.2.1, p.2.2.1⟩ : Sec)) (fun _ => rfl) (fun b => ⟨(b.profiles, b.lists, b.objects, ()), rfl⟩) fun _ _ => trivial
theorem rdCase : Rd Tryz.prog 29 4 encCase (fun _ => True) :=
 (Rd.struct Tryz.underlying29 (by kernel_rfl) (.cons rfl rdSec (.cons rfl rdStrs (.nil 4)))).map (fun p => (⟨p.1, p.2.1⟩ : Case)) (fun _ => rfl) (fun b => ⟨(b.sec, b.users, ()), rfl⟩) fun _ _ => trivial
theorem rdCap : Rd Tryz.prog 53 4 encCap (fun _ => True) :=
 (Rd.struct Tryz.underlying53 (by kernel_rfl) (.cons rfl rdI (.cons rfl rdI (.cons rfl rdI (.cons rfl rdI (.nil 4)))))).map (fun p => (⟨p.1, p.2.1, p.2.2.1, p.2.2.2.1⟩ : Cap)) (fun _ => rfl) (fun b => ⟨(b.job, b.object, b.kind, b.auth, ()), rfl⟩) fun _ _ => trivial
theorem rdDer : Rd Tryz.prog 63 8 encDer (fun _ => True) :=
 (Rd.struct Tryz.underlying63 (by kernel_rfl) (.cons rfl rdCap (.cons rfl rdI (.cons rfl rdI (.cons rfl rdI (.cons rfl rdI (.nil 8))))))).map (fun p => (⟨p.1, p.2.1, p.2.2.1, p.2.2.2.1, p.2.2.2.2.1⟩ : Der)) (fun _ => rfl) (fun b => ⟨(b.cap, b.kind, b.source, b.writer, b.reader, ()), rfl⟩) fun _ _ => trivial
theorem rdDers : Rd Tryz.prog 55 1 (fun l : List Der => [.sl (l.map encDer)]) (fun _ => True) := (Rd.slice Tryz.underlying55 (by kernel_rfl) (by decide) rdDer).map id (fun _ => rfl) (fun b => ⟨b, rfl⟩) fun _ _ => trivial
theorem rdBs : Rd Tryz.prog 89 1 (fun l : List Bool => [.sl (l.map encB)]) (fun _ => True) := (Rd.slice Tryz.underlying89 (by kernel_rfl) (by decide) rdB).map id (fun _ => rfl) (fun b => ⟨b, rfl⟩) fun _ _ => trivial
theorem rdStg : Rd Tryz.prog 91 2 encStg (fun _ => True) :=
 (Rd.struct Tryz.underlying91 (by kernel_rfl) (.cons rfl rdS (.cons rfl rdBs (.nil 2)))).map (fun p => (⟨p.1, p.2.1⟩ : Stg)) (fun _ => rfl) (fun b => ⟨(b.bytes, b.tags, ()), rfl⟩) fun _ _ => trivial
theorem rdStgs : Rd Tryz.prog 35 1 (fun l : List Stg => [.sl (l.map encStg)]) (fun _ => True) := (Rd.slice Tryz.underlying35 (by kernel_rfl) (by decide) rdStg).map id (fun _ => rfl) (fun b => ⟨b, rfl⟩) fun _ _ => trivial
theorem rdSt : Rd Tryz.prog 37 2 encSt (fun _ => True) :=
 (Rd.struct Tryz.underlying37 (by kernel_rfl) (.cons rfl rdStgs (.cons rfl rdStgs (.nil 2)))).map (fun p => (⟨p.1, p.2.1⟩ : St)) (fun _ => rfl) (fun b => ⟨(b.jobs, b.spaces, ()), rfl⟩) fun _ _ => trivial
theorem rdCOp : Rd Tryz.prog 66 8 encCOp (fun _ => True) :=
 (Rd.struct Tryz.underlying66 (by kernel_rfl) (.cons rfl rdI (.cons rfl rdI (.cons rfl rdI (.cons rfl rdI (.cons rfl rdI (.cons rfl rdI (.cons rfl rdI (.cons rfl rdS (.nil 8)))))))))).map (fun p => (⟨p.1, p.2.1, p.2.2.1, p.2.2.2.1, p.2.2.2.2.1, p.2.2.2.2.2.1, p.2.2.2.2.2.2.1, p.2.2.2.2.2.2.2.1⟩ : COp)) (fun _ => rfl) (fun b => ⟨(b.kind, b.job, b.src, b.dst, b.pointer, b.object, b.auth, b.data, ()), rfl⟩) fun _ _ => trivial
theorem rdCOps : Rd Tryz.prog 30 1 (fun l : List COp => [.sl (l.map encCOp)]) (fun _ => True) := (Rd.slice Tryz.underlying30 (by kernel_rfl) (by decide) rdCOp).map id (fun _ => rfl) (fun b => ⟨b, rfl⟩) fun _ _ => trivial
theorem aCase : Arg Tryz.prog 29 (fun s : Case => .agg (encCase s)) (fun _ => True) := Arg.agg rdCase Tryz.underlying29
theorem aSt : Arg Tryz.prog 37 (fun s : St => .agg (encSt s)) (fun _ => True) := Arg.agg rdSt Tryz.underlying37
theorem aCOp : Arg Tryz.prog 66 (fun s : COp => .agg (encCOp s)) (fun _ => True) := Arg.agg rdCOp Tryz.underlying66
theorem aDers : Arg Tryz.prog 55 (fun l : List Der => .sl (l.map encDer)) (fun _ => True) := Arg.one rdDers (by rw [Tryz.underlying55]; simp) (by rw [Tryz.underlying55]; simp)
theorem aCOps : Arg Tryz.prog 30 (fun l : List COp => .sl (l.map encCOp)) (fun _ => True) := Arg.one rdCOps (by rw [Tryz.underlying30]; simp) (by rw [Tryz.underlying30]; simp)
end Go.Proofs.YtbhgehhmjpipiaaGreatDoor.C12
