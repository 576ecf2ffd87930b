/- Chapter 10: how a request to grant reads. -/
import Derived.Test.YtdmcmfdmnlckdaaR0
import Derived.Test.YtdmcmfdmnlckdaaF34
namespace Go.Proofs.Ytdmcmfdmnlckdaa.C10
open Go Go.Proofs Go.Proofs.Ytdmcmfdmnlckdaa.Ab

theorem rdGReq : Rd Try.prog 100 3 encGReq (fun _ => True) :=
  (Rd.struct Try.underlying100 (by kernel_rfl) (.cons rfl rdS (.cons rfl rdI (.cons rfl rdI (.nil 3))))).map (fun p => (⟨p.1, p.2.1, p.2.2.1⟩ : GReq)) (fun _ => rfl) (fun b => ⟨(b.user, b.object, b.auth, ()), rfl⟩) fun _ _ => trivial
theorem aGReq : Arg Try.prog 100 (fun s : GReq => .agg (encGReq s)) (fun _ => True) := Arg.agg rdGReq Try.underlying100
end Go.Proofs.Ytdmcmfdmnlckdaa.C10
