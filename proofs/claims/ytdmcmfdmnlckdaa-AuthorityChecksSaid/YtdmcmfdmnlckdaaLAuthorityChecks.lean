/-
What is proved: the law AuthorityChecks of the given program answers true for every input, and leaves its arguments as they were.
Conditions: none but those of the given statement itself. It says which security information is valid, with an index and the number of objects, as the reference says it.
-/
import Derived.Test.YtdmcmfdmnlckdaaR0
namespace Go.Proofs.Ytdmcmfdmnlckdaa.authorityChecks
open Go Go.Proofs Go.Proofs.Ytdmcmfdmnlckdaa.Ab Go.Proofs.Ytdmcmfdmnlckdaa.C10 Go.ChangeShapes Go.WideShapes Go.ChangeAt Go.RowKit

set_option maxRecDepth 100000 in
theorem lifted (os : Os) (started : os.Started) (H : Type) (enc : TypeId × Value → H) :
    ReturnsInHanded {} Try.checked os 3 .any (Rows.authorityChecksSpec.pre6 enc Try.prog Try.f3 Rows.authorityChecksRow.domain false) (Rows.authorityChecksSpec.post enc Try.prog Try.f3 false true false false) := by
  refine returnsInHanded_of_change_sized (C := Try.checked) C10.ownKnob started (by kernel_rfl) Try.func3
    (ChangeSpec.witness6 (enc := enc) (C := Try.checked) false ⟨#[], #[.agg #[.slice none 0 0, .slice none 0 0, .slice none 0 0]], []⟩ 8 (by kernel_rfl) (by kernel_rfl) (by kernel_rfl) (by kernel_rfl)) ?_
  intro W base args ds gs before hval0 hW hcnd hsz0 _
  exact law_calls laidOut rfl Try.underlying4 (by rw [Try.params3]) (by kernel_rfl) rfl
    (fun ds hd => by match ds, hd with | [_], _ => rfl)
    (Args.cons aSec Args.nil) (fun a _ => (AuthorityChecks_good a.1).2) W base args ds gs before hval0 hW
theorem over : Rows.authorityChecksRow.holds Try.pinned (OpenSpec.ofChange Rows.authorityChecksSpec) :=
  OpenClaim.holds_of_wide 3 Try.f3 rfl rfl rfl rfl rfl rfl rfl ⟨rfl, rfl, rfl, rfl, rfl⟩ rfl rfl rfl rfl rfl (by kernel_rfl) Try.func3 (by kernel_rfl)
    (of_decide_eq_true (by kernel_rfl)) (by unfold Func.isWrapper; first | (rw [if_pos (by decide +kernel)]; kernel_rfl) | (rw [if_neg (by decide +kernel)]; exact ⟨rfl, rfl⟩))
    (fun os started H enc _ => lifted os started H enc)
end Go.Proofs.Ytdmcmfdmnlckdaa.authorityChecks
namespace Go.Proofs.Ytdmcmfdmnlckdaa
/-- The row, under a short name, for the claim. -/
theorem authorityChecks_holds : Rows.AuthorityChecksSaid := authorityChecks.over
#print axioms authorityChecks_holds
end Go.Proofs.Ytdmcmfdmnlckdaa
