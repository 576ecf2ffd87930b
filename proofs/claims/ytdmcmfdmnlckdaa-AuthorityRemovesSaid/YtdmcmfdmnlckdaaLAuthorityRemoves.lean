/-
What is proved: the law AuthorityRemoves of the given program answers true for every input, and leaves its arguments as they were.
Conditions: none but those of the given statement itself. It says that neither the user's authority nor that of one of whom the user is no group changes when a superfluous private authority is removed.
-/
import Derived.Test.YtdmcmfdmnlckdaaR0
import Derived.Test.YtdmcmfdmnlckdaaF30
namespace Go.Proofs.Ytdmcmfdmnlckdaa.authorityRemoves
open Go Go.Proofs Go.Proofs.Ytdmcmfdmnlckdaa.Ab Go.Proofs.Ytdmcmfdmnlckdaa.C10 Go.ChangeShapes Go.WideShapes Go.ChangeAt Go.RowKit

set_option maxRecDepth 100000 in
theorem lifted (os : Os) (started : os.Started) (H : Type) (enc : TypeId × Value → H) :
    ReturnsInHanded {} Try.checked os 10 .any (Rows.authorityRemovesSpec.pre6 enc Try.prog Try.f10 Rows.authorityRemovesRow.domain false) (Rows.authorityRemovesSpec.post enc Try.prog Try.f10 false true false false) := by
  refine returnsInHanded_of_change_sized (C := Try.checked) C10.ownKnob started (by kernel_rfl) Try.func10
    (ChangeSpec.witness6 (enc := enc) (C := Try.checked) false ⟨#[], #[.agg #[.slice none 0 0, .slice none 0 0, .slice none 0 0], .int .i64 0], []⟩ 8 (by kernel_rfl) (by kernel_rfl) (by kernel_rfl) (by kernel_rfl)) ?_
  intro W base args ds gs before hval0 hW hcnd hsz0 _
  exact law_calls laidOut rfl Try.underlying4 (by rw [Try.params10]) (by kernel_rfl) rfl
    (fun ds hd => by match ds, hd with | [_, _], _ => rfl)
    (Args.cons aSec (Args.cons aInt Args.nil)) (fun a _ => (AuthorityRemoves_good a.1 a.2.1).2) W base args ds gs before hval0 hW
theorem over : Rows.authorityRemovesRow.holds Try.pinned (OpenSpec.ofChange Rows.authorityRemovesSpec) :=
  OpenClaim.holds_of_wide 10 Try.f10 rfl rfl rfl rfl rfl rfl rfl ⟨rfl, rfl, rfl, rfl, rfl⟩ rfl rfl rfl rfl rfl (by kernel_rfl) Try.func10 (by kernel_rfl)
    (of_decide_eq_true (by kernel_rfl)) (by unfold Func.isWrapper; first | (rw [if_pos (by decide +kernel)]; kernel_rfl) | (rw [if_neg (by decide +kernel)]; exact ⟨rfl, rfl⟩))
    (fun os started H enc _ => lifted os started H enc)
end Go.Proofs.Ytdmcmfdmnlckdaa.authorityRemoves
namespace Go.Proofs.Ytdmcmfdmnlckdaa
/-- The row, under a short name, for the claim. -/
theorem authorityRemoves_holds : Rows.AuthorityRemovesSaid := authorityRemoves.over
#print axioms authorityRemoves_holds
end Go.Proofs.Ytdmcmfdmnlckdaa
