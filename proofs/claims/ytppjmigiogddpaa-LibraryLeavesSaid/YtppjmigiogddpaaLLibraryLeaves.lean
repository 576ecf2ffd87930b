/-
What is proved: the law LibraryLeaves of the given program answers true for every input, and leaves its arguments as they were.
Conditions: none but those of the given statement itself. It says what a library list is without an entry, and with another current library, as the reference says it.
-/
import Derived.Test.YtppjmigiogddpaaR0
import Derived.Test.YtppjmigiogddpaaE17
namespace Go.Proofs.Ytppjmigiogddpaa.libraryLeaves
open Go Go.Proofs Go.Proofs.Ytppjmigiogddpaa.Ab Go.Proofs.Ytppjmigiogddpaa.C08 Go.ChangeShapes Go.WideShapes Go.ChangeAt Go.RowKit

set_option maxRecDepth 100000 in
theorem lifted (os : Os) (started : os.Started) (H : Type) (enc : TypeId × Value → H) :
    ReturnsInHanded {} Try.checked os 6 .any (Rows.libraryLeavesSpec.pre6 enc Try.prog Try.f6 Rows.libraryLeavesRow.domain false) (Rows.libraryLeavesSpec.post enc Try.prog Try.f6 false true false false) := by
  refine returnsInHanded_of_change_sized (C := Try.checked) C08.ownKnob started (by kernel_rfl) Try.func6
    (ChangeSpec.witness6 (enc := enc) (C := Try.checked) false ⟨#[], #[.agg #[.slice none 0 0, .int .i64 0], .agg #[.slice none 0 0, .string ByteArray.empty, .slice none 0 0], .string ByteArray.empty], []⟩ 8 (by kernel_rfl) (by kernel_rfl) (by kernel_rfl) (by kernel_rfl)) ?_
  intro W base args ds gs before hval0 hW hcnd hsz0 _
  exact law_calls laidOut rfl Try.underlying4 (by rw [Try.params6]) (by kernel_rfl) rfl
    (fun ds hd => by match ds, hd with | [_, _, _], _ => rfl)
    (Args.cons aDir (Args.cons aLL (Args.cons aStr Args.nil))) (fun a _ => (LibraryLeaves_good a.1 a.2.1 a.2.2.1).2) W base args ds gs before hval0 hW
theorem over : Rows.libraryLeavesRow.holds Try.pinned (OpenSpec.ofChange Rows.libraryLeavesSpec) :=
  OpenClaim.holds_of_wide 6 Try.f6 rfl rfl rfl rfl rfl rfl rfl ⟨rfl, rfl, rfl, rfl, rfl⟩ rfl rfl rfl rfl rfl (by kernel_rfl) Try.func6 (by kernel_rfl)
    (of_decide_eq_true (by kernel_rfl)) (by unfold Func.isWrapper; first | (rw [if_pos (by decide +kernel)]; kernel_rfl) | (rw [if_neg (by decide +kernel)]; exact ⟨rfl, rfl⟩))
    (fun os started H enc _ => lifted os started H enc)
end Go.Proofs.Ytppjmigiogddpaa.libraryLeaves
namespace Go.Proofs.Ytppjmigiogddpaa
/-- The row, under a short name, for the claim. -/
theorem libraryLeaves_holds : Rows.LibraryLeavesSaid := libraryLeaves.over
#print axioms libraryLeaves_holds
end Go.Proofs.Ytppjmigiogddpaa
