/-
What is proved: the law ObjectChanges of the given program answers true for every input, and leaves its arguments as they were.
Conditions: none but those of the given statement itself. It says what a directory is in which a content is changed or cleared, and what a content is, as the reference says it.
-/
import Derived.Test.YtcmnbfpcomcejaaR0
import Derived.Test.YtcmnbfpcomcejaaC23
namespace Go.Proofs.Ytcmnbfpcomcejaa.objectChanges
open Go Go.Proofs Go.Proofs.Ytcmnbfpcomcejaa.Ab Go.Proofs.Ytcmnbfpcomcejaa.C08 Go.ChangeShapes Go.WideShapes Go.ChangeAt Go.RowKit

set_option maxRecDepth 100000 in
theorem lifted (os : Os) (started : os.Started) (H : Type) (enc : TypeId × Value → H) :
    ReturnsInHanded {} Try.checked os 9 .any (Rows.objectChangesSpec.pre6 enc Try.prog Try.f9 Rows.objectChangesRow.domain false) (Rows.objectChangesSpec.post enc Try.prog Try.f9 false true false false) := by
  refine returnsInHanded_of_change_sized (C := Try.checked) C08.ownKnob started (by kernel_rfl) Try.func9
    (ChangeSpec.witness6 (enc := enc) (C := Try.checked) false ⟨#[], #[.agg #[.slice none 0 0, .int .i64 0], .agg #[.string ByteArray.empty, .string ByteArray.empty, .int .i64 0], .string ByteArray.empty], []⟩ 8 (by kernel_rfl) (by kernel_rfl) (by kernel_rfl) (by kernel_rfl)) ?_
  intro W base args ds gs before hval0 hW hcnd hsz0 _
  exact law_calls laidOut rfl Try.underlying4 (by rw [Try.params9]) (by kernel_rfl) rfl
    (fun ds hd => by match ds, hd with | [_, _, _], _ => rfl)
    (Args.cons aDir (Args.cons aOName (Args.cons aStr Args.nil))) (fun a _ => (ObjectChanges_good a.1 a.2.1 a.2.2.1).2) W base args ds gs before hval0 hW
theorem over : Rows.objectChangesRow.holds Try.pinned (OpenSpec.ofChange Rows.objectChangesSpec) :=
  OpenClaim.holds_of_wide 9 Try.f9 rfl rfl rfl rfl rfl rfl rfl ⟨rfl, rfl, rfl, rfl, rfl⟩ rfl rfl rfl rfl rfl (by kernel_rfl) Try.func9 (by kernel_rfl)
    (of_decide_eq_true (by kernel_rfl)) (by unfold Func.isWrapper; first | (rw [if_pos (by decide +kernel)]; kernel_rfl) | (rw [if_neg (by decide +kernel)]; exact ⟨rfl, rfl⟩))
    (fun os started H enc _ => lifted os started H enc)
end Go.Proofs.Ytcmnbfpcomcejaa.objectChanges
namespace Go.Proofs.Ytcmnbfpcomcejaa
/-- The row, under a short name, for the claim. -/
theorem objectChanges_holds : Rows.ObjectChangesSaid := objectChanges.over
#print axioms objectChanges_holds
end Go.Proofs.Ytcmnbfpcomcejaa
