/-
What is proved: the law LibraryEntries of the given program answers true for every input, and leaves its arguments as they were.
Conditions: none but those of the given statement itself. An entry stands where the reference puts it, and what is refused is refused as the reference says.
-/
import Derived.Test.YtppjmigiogddpaaR0
import Derived.Test.YtppjmigiogddpaaE23
namespace Go.Proofs.Ytppjmigiogddpaa.libraryEntries
open Go Go.Proofs Go.Proofs.Ytppjmigiogddpaa.Ab Go.Proofs.Ytppjmigiogddpaa.C08 Go.ChangeShapes Go.WideShapes Go.ChangeAt Go.RowKit

set_option maxRecDepth 100000 in
theorem lifted (os : Os) (started : os.Started) (H : Type) (enc : TypeId × Value → H) :
    ReturnsInHanded {} Try.checked os 9 .any (Rows.libraryEntriesSpec.pre6 enc Try.prog Try.f9 Rows.libraryEntriesRow.domain false) (Rows.libraryEntriesSpec.post enc Try.prog Try.f9 false true false false) := by
  refine returnsInHanded_of_change_sized (C := Try.checked) C08.ownKnob started (by kernel_rfl) Try.func9
    (ChangeSpec.witness6 (enc := enc) (C := Try.checked) false ⟨#[], #[.agg #[.slice none 0 0, .int .i64 0], .agg #[.slice none 0 0, .string ByteArray.empty, .slice none 0 0], .agg #[.string ByteArray.empty, .int .i64 0, .string ByteArray.empty]], []⟩ 8 (by kernel_rfl) (by kernel_rfl) (by kernel_rfl) (by kernel_rfl)) ?_
  intro W base args ds gs before hval0 hW hcnd hsz0 _
  exact law_calls laidOut rfl Try.underlying4 (by rw [Try.params9]) (by kernel_rfl) rfl
    (fun ds hd => by match ds, hd with | [_, _, _], _ => rfl)
    (Args.cons aDir (Args.cons aLL (Args.cons aLE Args.nil))) (fun a _ => (LibraryEntries_good a.1 a.2.1 a.2.2.1).2) W base args ds gs before hval0 hW
theorem over : Rows.libraryEntriesRow.holds Try.pinned (OpenSpec.ofChange Rows.libraryEntriesSpec) :=
  OpenClaim.holds_of_wide 9 Try.f9 rfl rfl rfl rfl rfl rfl rfl ⟨rfl, rfl, rfl, rfl, rfl⟩ rfl rfl rfl rfl rfl (by kernel_rfl) Try.func9 (by kernel_rfl)
    (of_decide_eq_true (by kernel_rfl)) (by unfold Func.isWrapper; first | (rw [if_pos (by decide +kernel)]; kernel_rfl) | (rw [if_neg (by decide +kernel)]; exact ⟨rfl, rfl⟩))
    (fun os started H enc _ => lifted os started H enc)
end Go.Proofs.Ytppjmigiogddpaa.libraryEntries
namespace Go.Proofs.Ytppjmigiogddpaa
/-- The row, under a short name, for the claim. -/
theorem libraryEntries_holds : Rows.LibraryEntriesSaid := libraryEntries.over
#print axioms libraryEntries_holds
end Go.Proofs.Ytppjmigiogddpaa
