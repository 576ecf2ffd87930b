/-
What is proved: the law LibraryCopies of the given program answers true for every input, and leaves its arguments as they were.
Conditions: none but those of the given statement itself. A copy stands where the reference puts it, and what is refused is refused as the reference says.
-/
import Derived.Test.YtppjmigiogddpaaGreatR0
import Derived.Test.YtppjmigiogddpaaGreatE23
namespace Go.Proofs.YtppjmigiogddpaaGreat.libraryCopies
open Go Go.Proofs Go.Proofs.YtppjmigiogddpaaGreat.Ab Go.Proofs.YtppjmigiogddpaaGreat.C08 Go.ChangeShapes Go.WideShapes Go.ChangeAt Go.RowKit

set_option maxRecDepth 100000 in
theorem lifted (os : Os) (started : os.Started) (H : Type) (enc : TypeId × Value → H) :
    ReturnsInHanded {} Tryz.checked os 4 .any (Rows.libraryCopiesSpec.pre6 enc Tryz.prog Tryz.f4 Rows.libraryCopiesRow.domain false) (Rows.libraryCopiesSpec.post enc Tryz.prog Tryz.f4 false true false false) := by
  refine returnsInHanded_of_change_sized (C := Tryz.checked) C08.ownKnob started (by kernel_rfl) Tryz.func4
    (ChangeSpec.witness6 (enc := enc) (C := Tryz.checked) false ⟨#[], #[.agg #[.slice none 0 0, .int .i64 0], .agg #[.string ByteArray.empty, .string ByteArray.empty, .int .i64 0], .agg #[.string ByteArray.empty, .string ByteArray.empty, .int .i64 0]], []⟩ 8 (by kernel_rfl) (by kernel_rfl) (by kernel_rfl) (by kernel_rfl)) ?_
  intro W base args ds gs before hval0 hW hcnd hsz0 _
  exact law_calls laidOut rfl Tryz.underlying4 (by rw [Tryz.params4]) (by kernel_rfl) rfl
    (fun ds hd => by match ds, hd with | [_, _, _], _ => rfl)
    (Args.cons aDir (Args.cons aOName (Args.cons aOName Args.nil))) (fun a _ => (LibraryCopies_good a.1 a.2.1 a.2.2.1).2) W base args ds gs before hval0 hW
theorem over : Rows.libraryCopiesRow.holds Tryz.pinned (OpenSpec.ofChange Rows.libraryCopiesSpec) :=
  OpenClaim.holds_of_wide 4 Tryz.f4 rfl rfl rfl rfl rfl rfl rfl ⟨rfl, rfl, rfl, rfl, rfl⟩ rfl rfl rfl rfl rfl (by kernel_rfl) Tryz.func4 (by kernel_rfl)
    (of_decide_eq_true (by kernel_rfl)) (by unfold Func.isWrapper; first | (rw [if_pos (by decide +kernel)]; kernel_rfl) | (rw [if_neg (by decide +kernel)]; exact ⟨rfl, rfl⟩))
    (fun os started H enc _ => lifted os started H enc)
end Go.Proofs.YtppjmigiogddpaaGreat.libraryCopies
namespace Go.Proofs.YtppjmigiogddpaaGreat
/-- The row, under a short name, for the claim. -/
theorem libraryCopies_holds : Rows.LibraryCopiesSaid := libraryCopies.over
#print axioms libraryCopies_holds
end Go.Proofs.YtppjmigiogddpaaGreat
