/- Chapter 10: how the laws' arguments read. -/
import Derived.Test.YtdmcmfdmnlckdaaF14
import Derived.Test.YtdmcmfdmnlckdaaRows
import Derived.WalkKit
import Derived.ProofKit
import Derived.OpenShut
import Derived.ShutString
import Derived.ChangeOld
import Derived.SizedLaws
namespace Go.Proofs.Ytdmcmfdmnlckdaa.C10
open Go Go.Proofs Go.Proofs.Ytdmcmfdmnlckdaa.Ab

theorem ownKnob : ownKnob Try.prog.godebug = none := by kernel_rfl
theorem laidOut : laidOutB Try.prog = true := by kernel_rfl

theorem rdI : Rd Try.prog 3 1 (fun n : Int => [.int .i64 n]) (fun _ => True) := (Rd.int Try.underlying3 (by kernel_rfl)).map id (fun _ => rfl) (fun b => ⟨b, rfl⟩) fun _ _ => trivial
theorem rdB : Rd Try.prog 4 1 (fun n : Bool => [.bool n]) (fun _ => True) := Rd.bool Try.underlying4 (by kernel_rfl)
theorem rdS : Rd Try.prog 9 1 encStr (fun _ => True) := (Rd.str Try.underlying9 (by kernel_rfl)).map id (fun _ => rfl) (fun b => ⟨b, rfl⟩) fun _ _ => trivial
theorem rdStrs : Rd Try.prog 44 1 (fun l : List ByteArray => [.sl (l.map encStr)]) (fun _ => True) := (Rd.slice Try.underlying44 (by kernel_rfl) (by decide) rdS).map id (fun _ => rfl) (fun b => ⟨b, rfl⟩) fun _ _ => trivial
theorem rdProf : Rd Try.prog 57 3 encProf (fun _ => True) :=
  (Rd.struct Try.underlying57 (by kernel_rfl) (.cons rfl rdS (.cons rfl rdStrs (.cons rfl rdI (.nil 3))))).map (fun p => (⟨p.1, p.2.1, p.2.2.1⟩ : Prof)) (fun _ => rfl) (fun b => ⟨(b.name, b.groups, b.special, ()), rfl⟩) fun _ _ => trivial
theorem rdProfs : Rd Try.prog 22 1 (fun l : List Prof => [.sl (l.map encProf)]) (fun _ => True) := (Rd.slice Try.underlying22 (by kernel_rfl) (by decide) rdProf).map id (fun _ => rfl) (fun b => ⟨b, rfl⟩) fun _ _ => trivial
theorem rdGrant : Rd Try.prog 65 2 encGrant (fun _ => True) :=
  (Rd.struct Try.underlying65 (by kernel_rfl) (.cons rfl rdS (.cons rfl rdI (.nil 2)))).map (fun p => (⟨p.1, p.2.1⟩ : Grant)) (fun _ => rfl) (fun b => ⟨(b.user, b.auth, ()), rfl⟩) fun _ _ => trivial
theorem rdGrants : Rd Try.prog 60 1 (fun l : List Grant => [.sl (l.map encGrant)]) (fun _ => True) := (Rd.slice Try.underlying60 (by kernel_rfl) (by decide) rdGrant).map id (fun _ => rfl) (fun b => ⟨b, rfl⟩) fun _ _ => trivial
theorem rdAList : Rd Try.prog 108 4 encAList (fun _ => True) :=
  (Rd.struct Try.underlying108 (by kernel_rfl) (.cons rfl rdS (.cons rfl rdS (.cons rfl rdGrants (.cons rfl rdI (.nil 4)))))).map (fun p => (⟨p.1, p.2.1, p.2.2.1, p.2.2.2.1⟩ : AList)) (fun _ => rfl) (fun b => ⟨(b.name, b.owner, b.grants, b.pub, ()), rfl⟩) fun _ _ => trivial
theorem rdALists : Rd Try.prog 23 1 (fun l : List AList => [.sl (l.map encAList)]) (fun _ => True) := (Rd.slice Try.underlying23 (by kernel_rfl) (by decide) rdAList).map id (fun _ => rfl) (fun b => ⟨b, rfl⟩) fun _ _ => trivial
theorem rdOName : Rd Try.prog 59 3 encOName (fun _ => True) :=
  (Rd.struct Try.underlying59 (by kernel_rfl) (.cons rfl rdS (.cons rfl rdS (.cons rfl rdI (.nil 3))))).map (fun p => (⟨p.1, p.2.1, p.2.2.1⟩ : OName)) (fun _ => rfl) (fun b => ⟨(b.lib, b.name, b.type, ()), rfl⟩) fun _ _ => trivial
theorem rdSecured : Rd Try.prog 62 8 encSecured (fun _ => True) :=
  (Rd.struct Try.underlying62 (by kernel_rfl) (.cons rfl rdOName (.cons rfl rdS (.cons rfl rdGrants (.cons rfl rdS (.cons rfl rdI (.cons rfl rdB (.nil 8)))))))).map (fun p => (⟨p.1, p.2.1, p.2.2.1, p.2.2.2.1, p.2.2.2.2.1, p.2.2.2.2.2.1⟩ : Secured)) (fun _ => rfl) (fun b => ⟨(b.name, b.owner, b.grants, b.list, b.pub, b.byList, ()), rfl⟩) fun _ _ => trivial
theorem rdSecureds : Rd Try.prog 24 1 (fun l : List Secured => [.sl (l.map encSecured)]) (fun _ => True) := (Rd.slice Try.underlying24 (by kernel_rfl) (by decide) rdSecured).map id (fun _ => rfl) (fun b => ⟨b, rfl⟩) fun _ _ => trivial
theorem rdSec : Rd Try.prog 26 3 encSec (fun _ => True) :=
  (Rd.struct Try.underlying26 (by kernel_rfl) (.cons rfl rdProfs (.cons rfl rdALists (.cons rfl rdSecureds (.nil 3))))).map (fun p => (⟨p.1, p.2.1, p.2.2.1⟩ : Sec)) (fun _ => rfl) (fun b => ⟨(b.profiles, b.lists, b.objects, ()), rfl⟩) fun _ _ => trivial
theorem rdReq : Rd Try.prog 46 4 encReq (fun _ => True) :=
  (Rd.struct Try.underlying46 (by kernel_rfl) (.cons rfl rdS (.cons rfl rdStrs (.cons rfl rdI (.cons rfl rdI (.nil 4)))))).map (fun p => (⟨p.1, p.2.1, p.2.2.1, p.2.2.2.1⟩ : Req)) (fun _ => rfl) (fun b => ⟨(b.user, b.adopters, b.object, b.needed, ()), rfl⟩) fun _ _ => trivial

theorem aSec : Arg Try.prog 26 (fun s : Sec => .agg (encSec s)) (fun _ => True) := Arg.agg rdSec Try.underlying26
theorem aReq : Arg Try.prog 46 (fun r : Req => .agg (encReq r)) (fun _ => True) := Arg.agg rdReq Try.underlying46
theorem aStr : Arg Try.prog 9 (fun r : ByteArray => .str r) (fun _ => True) := Arg.one rdS (by rw [Try.underlying9]; simp) (by rw [Try.underlying9]; simp)
theorem aInt : Arg Try.prog 3 (fun r : Int => .int .i64 r) (fun _ => True) := Arg.one rdI (by rw [Try.underlying3]; simp) (by rw [Try.underlying3]; simp)
theorem aStrs : Arg Try.prog 44 (fun l : List ByteArray => .sl (l.map encStr)) (fun _ => True) := Arg.one rdStrs (by rw [Try.underlying44]; simp) (by rw [Try.underlying44]; simp)
end Go.Proofs.Ytdmcmfdmnlckdaa.C10
