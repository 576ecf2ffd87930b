/-
What is proved: the law LibraryNames of the given program answers true for every input, and leaves its arguments as they were.
Conditions: none but those of the given statement itself. It says what the string of a qualified name is, and the qualified name of a string, as the reference says it.
-/
import Derived.Test.YtppjmigiogddpaaR0
import Derived.Test.YtppjmigiogddpaaE11
namespace Go.Proofs.Ytppjmigiogddpaa.libraryNames
open Go Go.Proofs Go.Proofs.Ytppjmigiogddpaa.Ab Go.Proofs.Ytppjmigiogddpaa.C08 Go.ChangeShapes Go.WideShapes Go.ChangeAt Go.RowKit

set_option maxRecDepth 100000 in
theorem lifted (os : Os) (started : os.Started) (H : Type) (enc : TypeId × Value → H) :
    ReturnsInHanded {} Try.checked os 3 .any (Rows.libraryNamesSpec.pre6 enc Try.prog Try.f3 Rows.libraryNamesRow.domain false) (Rows.libraryNamesSpec.post enc Try.prog Try.f3 false true false false) := by
  refine returnsInHanded_of_change_sized (C := Try.checked) C08.ownKnob started (by kernel_rfl) Try.func3
    (ChangeSpec.witness6 (enc := enc) (C := Try.checked) false ⟨#[], #[.agg #[.string ByteArray.empty, .string ByteArray.empty, .bool false], .string ByteArray.empty], []⟩ 8 (by kernel_rfl) (by kernel_rfl) (by kernel_rfl) (by kernel_rfl)) ?_
  intro W base args ds gs before hval0 hW hcnd hsz0 _
  exact law_calls laidOut rfl Try.underlying4 (by rw [Try.params3]) (by kernel_rfl) rfl
    (fun ds hd => by match ds, hd with | [_, _], _ => rfl)
    (Args.cons aQN (Args.cons aStr Args.nil)) (fun a _ => (LibraryNames_good a.1 a.2.1).2) W base args ds gs before hval0 hW
theorem over : Rows.libraryNamesRow.holds Try.pinned (OpenSpec.ofChange Rows.libraryNamesSpec) :=
  OpenClaim.holds_of_wide 3 Try.f3 rfl rfl rfl rfl rfl rfl rfl ⟨rfl, rfl, rfl, rfl, rfl⟩ rfl rfl rfl rfl rfl (by kernel_rfl) Try.func3 (by kernel_rfl)
    (of_decide_eq_true (by kernel_rfl)) (by unfold Func.isWrapper; first | (rw [if_pos (by decide +kernel)]; kernel_rfl) | (rw [if_neg (by decide +kernel)]; exact ⟨rfl, rfl⟩))
    (fun os started H enc _ => lifted os started H enc)
end Go.Proofs.Ytppjmigiogddpaa.libraryNames
namespace Go.Proofs.Ytppjmigiogddpaa
/-- The row, under a short name, for the claim. -/
theorem libraryNames_holds : Rows.LibraryNamesSaid := libraryNames.over
#print axioms libraryNames_holds
end Go.Proofs.Ytppjmigiogddpaa
