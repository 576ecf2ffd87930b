/-
What is proved: the law ObjectKinds of the given program answers true for every input, and leaves its arguments as they were.
Conditions: none but those of the given statement itself. Types have the names and permit the operations that the reference says; a name has the type that it says.
-/
import Derived.Test.YtcmnbfpcomcejaaR0
import Derived.Test.YtcmnbfpcomcejaaC27
namespace Go.Proofs.Ytcmnbfpcomcejaa.objectKinds
open Go Go.Proofs Go.Proofs.Ytcmnbfpcomcejaa.Ab Go.Proofs.Ytcmnbfpcomcejaa.C08 Go.ChangeShapes Go.WideShapes Go.ChangeAt Go.RowKit

set_option maxRecDepth 100000 in
theorem lifted (os : Os) (started : os.Started) (H : Type) (enc : TypeId × Value → H) :
    ReturnsInHanded {} Try.checked os 7 .any (Rows.objectKindsSpec.pre6 enc Try.prog Try.f7 Rows.objectKindsRow.domain false) (Rows.objectKindsSpec.post enc Try.prog Try.f7 false true false false) := by
  refine returnsInHanded_of_change_sized (C := Try.checked) C08.ownKnob started (by kernel_rfl) Try.func7
    (ChangeSpec.witness6 (enc := enc) (C := Try.checked) false ⟨#[], #[.int .i64 0, .string ByteArray.empty], []⟩ 8 (by kernel_rfl) (by kernel_rfl) (by kernel_rfl) (by kernel_rfl)) ?_
  intro W base args ds gs before hval0 hW hcnd hsz0 _
  exact law_calls laidOut rfl Try.underlying4 (by rw [Try.params7]) (by kernel_rfl) rfl
    (fun ds hd => by match ds, hd with | [_, _], _ => rfl)
    (Args.cons aInt (Args.cons aStr Args.nil)) (fun a _ => (ObjectKinds_good a.1 a.2.1).2) W base args ds gs before hval0 hW
theorem over : Rows.objectKindsRow.holds Try.pinned (OpenSpec.ofChange Rows.objectKindsSpec) :=
  OpenClaim.holds_of_wide 7 Try.f7 rfl rfl rfl rfl rfl rfl rfl ⟨rfl, rfl, rfl, rfl, rfl⟩ rfl rfl rfl rfl rfl (by kernel_rfl) Try.func7 (by kernel_rfl)
    (of_decide_eq_true (by kernel_rfl)) (by unfold Func.isWrapper; first | (rw [if_pos (by decide +kernel)]; kernel_rfl) | (rw [if_neg (by decide +kernel)]; exact ⟨rfl, rfl⟩))
    (fun os started H enc _ => lifted os started H enc)
end Go.Proofs.Ytcmnbfpcomcejaa.objectKinds
namespace Go.Proofs.Ytcmnbfpcomcejaa
/-- The row, under a short name, for the claim. -/
theorem objectKinds_holds : Rows.ObjectKindsSaid := objectKinds.over
#print axioms objectKinds_holds
end Go.Proofs.Ytcmnbfpcomcejaa
