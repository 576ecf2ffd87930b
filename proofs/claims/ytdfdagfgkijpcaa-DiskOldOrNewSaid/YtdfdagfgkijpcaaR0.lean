/- Chapter 6: how the laws' arguments read. -/
import Derived.Test.YtdfdagfgkijpcaaD0
import Derived.Test.YtdfdagfgkijpcaaRows
import Derived.WalkKit
import Derived.ProofKit
import Derived.OpenShut
import Derived.ShutString
import Derived.ChangeOld
import Derived.SizedLaws
namespace Go.Proofs.Ytdfdagfgkijpcaa.C06
open Go Go.Proofs Go.Proofs.Ytdfdagfgkijpcaa.Ab

theorem ownKnob : ownKnob Try.prog.godebug = none := by kernel_rfl
theorem laidOut : laidOutB Try.prog = true := by kernel_rfl

theorem rdI : Rd Try.prog 3 1 encInt (fun _ => True) := (Rd.int Try.underlying3 (by kernel_rfl)).map id (fun _ => rfl) (fun b => ⟨b, rfl⟩) fun _ _ => trivial
theorem rdS : Rd Try.prog 9 1 encStr (fun _ => True) := (Rd.str Try.underlying9 (by kernel_rfl)).map id (fun _ => rfl) (fun b => ⟨b, rfl⟩) fun _ _ => trivial
theorem rdSs : Rd Try.prog 47 1 (fun l : List ByteArray => [.sl (l.map encStr)]) (fun _ => True) := (Rd.slice Try.underlying47 (by kernel_rfl) (by decide) rdS).map id (fun _ => rfl) (fun b => ⟨b, rfl⟩) fun _ _ => trivial
theorem rdIs : Rd Try.prog 40 1 (fun l : List Int => [.sl (l.map encInt)]) (fun _ => True) := (Rd.slice Try.underlying40 (by kernel_rfl) (by decide) rdI).map id (fun _ => rfl) (fun b => ⟨b, rfl⟩) fun _ _ => trivial
theorem rdDU : Rd Try.prog 66 2 encDU (fun _ => True) :=
  (Rd.struct Try.underlying66 (by kernel_rfl) (.cons rfl rdI (.cons rfl rdSs (.nil 2)))).map (fun p => (⟨p.1, p.2.1⟩ : DU)) (fun _ => rfl) (fun b => ⟨(b.state, b.secs, ()), rfl⟩) fun _ _ => trivial
theorem rdDUs : Rd Try.prog 22 1 (fun l : List DU => [.sl (l.map encDU)]) (fun _ => True) := (Rd.slice Try.underlying22 (by kernel_rfl) (by decide) rdDU).map id (fun _ => rfl) (fun b => ⟨b, rfl⟩) fun _ _ => trivial
theorem rdDisk : Rd Try.prog 24 3 encDisk (fun _ => True) :=
  (Rd.struct Try.underlying24 (by kernel_rfl) (.cons rfl rdI (.cons rfl rdI (.cons rfl rdDUs (.nil 3))))).map (fun p => (⟨p.1, p.2.1, p.2.2.1⟩ : Disk)) (fun _ => rfl) (fun b => ⟨(b.kind, b.size, b.units, ()), rfl⟩) fun _ _ => trivial
theorem rdSW : Rd Try.prog 56 2 encSW (fun _ => True) :=
  (Rd.struct Try.underlying56 (by kernel_rfl) (.cons rfl rdI (.cons rfl rdS (.nil 2)))).map (fun p => (⟨p.1, p.2.1⟩ : SW)) (fun _ => rfl) (fun b => ⟨(b.sector, b.bytes, ()), rfl⟩) fun _ _ => trivial
theorem rdSWs : Rd Try.prog 34 1 (fun l : List SW => [.sl (l.map encSW)]) (fun _ => True) := (Rd.slice Try.underlying34 (by kernel_rfl) (by decide) rdSW).map id (fun _ => rfl) (fun b => ⟨b, rfl⟩) fun _ _ => trivial

theorem aDisk : Arg Try.prog 24 (fun s : Disk => .agg (encDisk s)) (fun _ => True) := Arg.agg rdDisk Try.underlying24
theorem aSWs : Arg Try.prog 34 (fun l : List SW => .sl (l.map encSW)) (fun _ => True) := Arg.one rdSWs (by rw [Try.underlying34]; simp) (by rw [Try.underlying34]; simp)
theorem aInts : Arg Try.prog 40 (fun l : List Int => .sl (l.map encInt)) (fun _ => True) := Arg.one rdIs (by rw [Try.underlying40]; simp) (by rw [Try.underlying40]; simp)
theorem aInt : Arg Try.prog 3 (fun r : Int => .int .i64 r) (fun _ => True) := Arg.one rdI (by rw [Try.underlying3]; simp) (by rw [Try.underlying3]; simp)
end Go.Proofs.Ytdfdagfgkijpcaa.C06
