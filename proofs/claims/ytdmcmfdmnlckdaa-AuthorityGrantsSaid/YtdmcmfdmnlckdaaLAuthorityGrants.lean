/-
What is proved: the law AuthorityGrants of the given program answers true for every input, and leaves its arguments as they were.
Conditions: none but those of the given statement itself. It says that granting and revoking do as the reference says, or fail with its error.
-/
import Derived.Test.YtdmcmfdmnlckdaaR2
import Derived.Test.YtdmcmfdmnlckdaaF43
namespace Go.Proofs.Ytdmcmfdmnlckdaa.authorityGrants
open Go Go.Proofs Go.Proofs.Ytdmcmfdmnlckdaa.Ab Go.Proofs.Ytdmcmfdmnlckdaa.C10 Go.ChangeShapes Go.WideShapes Go.ChangeAt Go.RowKit

set_option maxRecDepth 100000 in
theorem lifted (os : Os) (started : os.Started) (H : Type) (enc : TypeId × Value → H) :
    ReturnsInHanded {} Try.checked os 14 .any (Rows.authorityGrantsSpec.pre6 enc Try.prog Try.f14 Rows.authorityGrantsRow.domain false) (Rows.authorityGrantsSpec.post enc Try.prog Try.f14 false true false false) := by
  refine returnsInHanded_of_change_sized (C := Try.checked) C10.ownKnob started (by kernel_rfl) Try.func14
    (ChangeSpec.witness6 (enc := enc) (C := Try.checked) false ⟨#[], #[.agg #[.slice none 0 0, .slice none 0 0, .slice none 0 0], .string ByteArray.empty, .agg #[.string ByteArray.empty, .int .i64 0, .int .i64 0]], []⟩ 8 (by kernel_rfl) (by kernel_rfl) (by kernel_rfl) (by kernel_rfl)) ?_
  intro W base args ds gs before hval0 hW hcnd hsz0 _
  exact law_calls laidOut rfl Try.underlying4 (by rw [Try.params14]) (by kernel_rfl) rfl
    (fun ds hd => by match ds, hd with | [_, _, _], _ => rfl)
    (Args.cons aSec (Args.cons aStr (Args.cons aGReq Args.nil))) (fun a _ => (AuthorityGrants_good a.1 a.2.1 a.2.2.1).2) W base args ds gs before hval0 hW
theorem over : Rows.authorityGrantsRow.holds Try.pinned (OpenSpec.ofChange Rows.authorityGrantsSpec) :=
  OpenClaim.holds_of_wide 14 Try.f14 rfl rfl rfl rfl rfl rfl rfl ⟨rfl, rfl, rfl, rfl, rfl⟩ rfl rfl rfl rfl rfl (by kernel_rfl) Try.func14 (by kernel_rfl)
    (of_decide_eq_true (by kernel_rfl)) (by unfold Func.isWrapper; first | (rw [if_pos (by decide +kernel)]; kernel_rfl) | (rw [if_neg (by decide +kernel)]; exact ⟨rfl, rfl⟩))
    (fun os started H enc _ => lifted os started H enc)
end Go.Proofs.Ytdmcmfdmnlckdaa.authorityGrants
namespace Go.Proofs.Ytdmcmfdmnlckdaa
/-- The row, under a short name, for the claim. -/
theorem authorityGrants_holds : Rows.AuthorityGrantsSaid := authorityGrants.over
#print axioms authorityGrants_holds
end Go.Proofs.Ytdmcmfdmnlckdaa
