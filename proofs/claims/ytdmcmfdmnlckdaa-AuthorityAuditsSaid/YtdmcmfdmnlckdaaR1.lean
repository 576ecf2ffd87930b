/- Chapter 10: how the arguments of the law of audits read. -/
import Derived.Test.YtdmcmfdmnlckdaaR0
import Derived.Test.YtdmcmfdmnlckdaaF18
namespace Go.Proofs.Ytdmcmfdmnlckdaa.C10
open Go Go.Proofs Go.Proofs.Ytdmcmfdmnlckdaa.Ab

theorem rdInts : Rd Try.prog 73 1 (fun l : List Int => [.sl (l.map encInt)]) (fun _ => True) := (Rd.slice Try.underlying73 (by kernel_rfl) (by decide) rdI).map id (fun _ => rfl) (fun b => ⟨b, rfl⟩) fun _ _ => trivial
theorem rdRules : Rd Try.prog 83 3 encRules (fun _ => True) :=
  (Rd.struct Try.underlying83 (by kernel_rfl) (.cons rfl rdInts (.cons rfl rdInts (.cons rfl rdB (.nil 3))))).map (fun p => (⟨p.1, p.2.1, p.2.2.1⟩ : Rules)) (fun _ => rfl) (fun b => ⟨(b.objects, b.profiles, b.failures, ()), rfl⟩) fun _ _ => trivial
theorem rdReqs : Rd Try.prog 84 1 (fun l : List Req => [.sl (l.map encReq)]) (fun _ => True) := (Rd.slice Try.underlying84 (by kernel_rfl) (by decide) rdReq).map id (fun _ => rfl) (fun b => ⟨b, rfl⟩) fun _ _ => trivial
theorem aRules : Arg Try.prog 83 (fun s : Rules => .agg (encRules s)) (fun _ => True) := Arg.agg rdRules Try.underlying83
theorem aReqs : Arg Try.prog 84 (fun l : List Req => .sl (l.map encReq)) (fun _ => True) := Arg.one rdReqs (by rw [Try.underlying84]; simp) (by rw [Try.underlying84]; simp)
end Go.Proofs.Ytdmcmfdmnlckdaa.C10
