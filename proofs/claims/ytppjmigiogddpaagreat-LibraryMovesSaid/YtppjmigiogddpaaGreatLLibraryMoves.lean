/-
What is proved: the law LibraryMoves of the given program answers true for every input, and leaves its arguments as they were.
Conditions: none but those of the given statement itself. A moved object stands where the reference puts it, and what is refused is refused as the reference says.
-/
import Derived.Test.YtppjmigiogddpaaGreatR0
import Derived.Test.YtppjmigiogddpaaGreatE22
namespace Go.Proofs.YtppjmigiogddpaaGreat.libraryMoves
open Go Go.Proofs Go.Proofs.YtppjmigiogddpaaGreat.Ab Go.Proofs.YtppjmigiogddpaaGreat.C08 Go.ChangeShapes Go.WideShapes Go.ChangeAt Go.RowKit

set_option maxRecDepth 100000 in
theorem lifted (os : Os) (started : os.Started) (H : Type) (enc : TypeId × Value → H) :
    ReturnsInHanded {} Tryz.checked os 3 .any (Rows.libraryMovesSpec.pre6 enc Tryz.prog Tryz.f3 Rows.libraryMovesRow.domain false) (Rows.libraryMovesSpec.post enc Tryz.prog Tryz.f3 false true false false) := by
  refine returnsInHanded_of_change_sized (C := Tryz.checked) C08.ownKnob started (by kernel_rfl) Tryz.func3
    (ChangeSpec.witness6 (enc := enc) (C := Tryz.checked) false ⟨#[], #[.agg #[.slice none 0 0, .int .i64 0], .agg #[.string ByteArray.empty, .string ByteArray.empty, .int .i64 0], .string ByteArray.empty], []⟩ 8 (by kernel_rfl) (by kernel_rfl) (by kernel_rfl) (by kernel_rfl)) ?_
  intro W base args ds gs before hval0 hW hcnd hsz0 _
  exact law_calls laidOut rfl Tryz.underlying4 (by rw [Tryz.params3]) (by kernel_rfl) rfl
    (fun ds hd => by match ds, hd with | [_, _, _], _ => rfl)
    (Args.cons aDir (Args.cons aOName (Args.cons aStr Args.nil))) (fun a _ => (LibraryMoves_good a.1 a.2.1 a.2.2.1).2) W base args ds gs before hval0 hW
theorem over : Rows.libraryMovesRow.holds Tryz.pinned (OpenSpec.ofChange Rows.libraryMovesSpec) :=
  OpenClaim.holds_of_wide 3 Tryz.f3 rfl rfl rfl rfl rfl rfl rfl ⟨rfl, rfl, rfl, rfl, rfl⟩ rfl rfl rfl rfl rfl (by kernel_rfl) Tryz.func3 (by kernel_rfl)
    (of_decide_eq_true (by kernel_rfl)) (by unfold Func.isWrapper; first | (rw [if_pos (by decide +kernel)]; kernel_rfl) | (rw [if_neg (by decide +kernel)]; exact ⟨rfl, rfl⟩))
    (fun os started H enc _ => lifted os started H enc)
end Go.Proofs.YtppjmigiogddpaaGreat.libraryMoves
namespace Go.Proofs.YtppjmigiogddpaaGreat
/-- The row, under a short name, for the claim. -/
theorem libraryMoves_holds : Rows.LibraryMovesSaid := libraryMoves.over
#print axioms libraryMoves_holds
end Go.Proofs.YtppjmigiogddpaaGreat
