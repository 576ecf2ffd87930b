/-
What is proved: the law AuthoritySearches of the given program answers true for every input, and leaves its arguments as they were.
Conditions: none but those of the given statement itself. It says what authority a user has for an object, with the reason and the name, as the reference says it, or the error.
-/
import Derived.Test.YtdmcmfdmnlckdaaR0
import Derived.Test.YtdmcmfdmnlckdaaF16
namespace Go.Proofs.Ytdmcmfdmnlckdaa.authoritySearches
open Go Go.Proofs Go.Proofs.Ytdmcmfdmnlckdaa.Ab Go.Proofs.Ytdmcmfdmnlckdaa.C10 Go.ChangeShapes Go.WideShapes Go.ChangeAt Go.RowKit

set_option maxRecDepth 100000 in
theorem lifted (os : Os) (started : os.Started) (H : Type) (enc : TypeId × Value → H) :
    ReturnsInHanded {} Try.checked os 4 .any (Rows.authoritySearchesSpec.pre6 enc Try.prog Try.f4 Rows.authoritySearchesRow.domain false) (Rows.authoritySearchesSpec.post enc Try.prog Try.f4 false true false false) := by
  refine returnsInHanded_of_change_sized (C := Try.checked) C10.ownKnob started (by kernel_rfl) Try.func4
    (ChangeSpec.witness6 (enc := enc) (C := Try.checked) false ⟨#[], #[.agg #[.slice none 0 0, .slice none 0 0, .slice none 0 0], .string ByteArray.empty, .int .i64 0], []⟩ 8 (by kernel_rfl) (by kernel_rfl) (by kernel_rfl) (by kernel_rfl)) ?_
  intro W base args ds gs before hval0 hW hcnd hsz0 _
  exact law_calls laidOut rfl Try.underlying4 (by rw [Try.params4]) (by kernel_rfl) rfl
    (fun ds hd => by match ds, hd with | [_, _, _], _ => rfl)
    (Args.cons aSec (Args.cons aStr (Args.cons aInt Args.nil))) (fun a _ => (AuthoritySearches_good a.1 a.2.1 a.2.2.1).2) W base args ds gs before hval0 hW
theorem over : Rows.authoritySearchesRow.holds Try.pinned (OpenSpec.ofChange Rows.authoritySearchesSpec) :=
  OpenClaim.holds_of_wide 4 Try.f4 rfl rfl rfl rfl rfl rfl rfl ⟨rfl, rfl, rfl, rfl, rfl⟩ rfl rfl rfl rfl rfl (by kernel_rfl) Try.func4 (by kernel_rfl)
    (of_decide_eq_true (by kernel_rfl)) (by unfold Func.isWrapper; first | (rw [if_pos (by decide +kernel)]; kernel_rfl) | (rw [if_neg (by decide +kernel)]; exact ⟨rfl, rfl⟩))
    (fun os started H enc _ => lifted os started H enc)
end Go.Proofs.Ytdmcmfdmnlckdaa.authoritySearches
namespace Go.Proofs.Ytdmcmfdmnlckdaa
/-- The row, under a short name, for the claim. -/
theorem authoritySearches_holds : Rows.AuthoritySearchesSaid := authoritySearches.over
#print axioms authoritySearches_holds
end Go.Proofs.Ytdmcmfdmnlckdaa
