/-
What is proved: the law AuthorityPrivilege of the given program answers true for every input, and leaves its arguments as they were.
Conditions: none but those of the given statement itself. It says that the least authority, granted, serves, and that without one of its parts it does not.
-/
import Derived.Test.YtdmcmfdmnlckdaaR0
import Derived.Test.YtdmcmfdmnlckdaaF44
namespace Go.Proofs.Ytdmcmfdmnlckdaa.authorityPrivilege
open Go Go.Proofs Go.Proofs.Ytdmcmfdmnlckdaa.Ab Go.Proofs.Ytdmcmfdmnlckdaa.C10 Go.ChangeShapes Go.WideShapes Go.ChangeAt Go.RowKit

set_option maxRecDepth 100000 in
theorem lifted (os : Os) (started : os.Started) (H : Type) (enc : TypeId × Value → H) :
    ReturnsInHanded {} Try.checked os 13 .any (Rows.authorityPrivilegeSpec.pre6 enc Try.prog Try.f13 Rows.authorityPrivilegeRow.domain false) (Rows.authorityPrivilegeSpec.post enc Try.prog Try.f13 false true false false) := by
  refine returnsInHanded_of_change_sized (C := Try.checked) C10.ownKnob started (by kernel_rfl) Try.func13
    (ChangeSpec.witness6 (enc := enc) (C := Try.checked) false ⟨#[], #[.agg #[.slice none 0 0, .slice none 0 0, .slice none 0 0], .agg #[.string ByteArray.empty, .slice none 0 0, .int .i64 0, .int .i64 0], .string ByteArray.empty], []⟩ 8 (by kernel_rfl) (by kernel_rfl) (by kernel_rfl) (by kernel_rfl)) ?_
  intro W base args ds gs before hval0 hW hcnd hsz0 _
  exact law_calls laidOut rfl Try.underlying4 (by rw [Try.params13]) (by kernel_rfl) rfl
    (fun ds hd => by match ds, hd with | [_, _, _], _ => rfl)
    (Args.cons aSec (Args.cons aReq (Args.cons aStr Args.nil))) (fun a _ => (AuthorityPrivilege_good a.1 a.2.1 a.2.2.1).2) W base args ds gs before hval0 hW
theorem over : Rows.authorityPrivilegeRow.holds Try.pinned (OpenSpec.ofChange Rows.authorityPrivilegeSpec) :=
  OpenClaim.holds_of_wide 13 Try.f13 rfl rfl rfl rfl rfl rfl rfl ⟨rfl, rfl, rfl, rfl, rfl⟩ rfl rfl rfl rfl rfl (by kernel_rfl) Try.func13 (by kernel_rfl)
    (of_decide_eq_true (by kernel_rfl)) (by unfold Func.isWrapper; first | (rw [if_pos (by decide +kernel)]; kernel_rfl) | (rw [if_neg (by decide +kernel)]; exact ⟨rfl, rfl⟩))
    (fun os started H enc _ => lifted os started H enc)
end Go.Proofs.Ytdmcmfdmnlckdaa.authorityPrivilege
namespace Go.Proofs.Ytdmcmfdmnlckdaa
/-- The row, under a short name, for the claim. -/
theorem authorityPrivilege_holds : Rows.AuthorityPrivilegeSaid := authorityPrivilege.over
#print axioms authorityPrivilege_holds
end Go.Proofs.Ytdmcmfdmnlckdaa
