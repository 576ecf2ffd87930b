/-
What is proved: the law LibraryOnce of the given program answers true for every input, and leaves its arguments as they were.
Conditions: none but those of the given statement itself. What was resolved once stays what it is, whatever is moved, renamed, copied.
-/
import Derived.Test.YtppjmigiogddpaaGreatR1
import Derived.Test.YtppjmigiogddpaaGreatE26
namespace Go.Proofs.YtppjmigiogddpaaGreat.libraryOnce
open Go Go.Proofs Go.Proofs.YtppjmigiogddpaaGreat.Ab Go.Proofs.YtppjmigiogddpaaGreat.C08 Go.ChangeShapes Go.WideShapes Go.ChangeAt Go.RowKit

set_option maxRecDepth 100000 in
theorem lifted (os : Os) (started : os.Started) (H : Type) (enc : TypeId × Value → H) :
    ReturnsInHanded {} Tryz.checked os 5 .any (Rows.libraryOnceSpec.pre6 enc Tryz.prog Tryz.f5 Rows.libraryOnceRow.domain false) (Rows.libraryOnceSpec.post enc Tryz.prog Tryz.f5 false true false false) := by
  refine returnsInHanded_of_change_sized (C := Tryz.checked) C08.ownKnob started (by kernel_rfl) Tryz.func5
    (ChangeSpec.witness6 (enc := enc) (C := Tryz.checked) false ⟨#[], #[.agg #[.slice none 0 0, .int .i64 0], .agg #[.string ByteArray.empty, .string ByteArray.empty, .bool false, .int .i64 0], .slice none 0 0], []⟩ 8 (by kernel_rfl) (by kernel_rfl) (by kernel_rfl) (by kernel_rfl)) ?_
  intro W base args ds gs before hval0 hW hcnd hsz0 _
  exact law_calls laidOut rfl Tryz.underlying4 (by rw [Tryz.params5]) (by kernel_rfl) rfl
    (fun ds hd => by match ds, hd with | [_, _, _], _ => rfl)
    (Args.cons aDir (Args.cons aReso (Args.cons aSteps Args.nil))) (fun a _ => (LibraryOnce_good a.1 a.2.1 a.2.2.1).2) W base args ds gs before hval0 hW
theorem over : Rows.libraryOnceRow.holds Tryz.pinned (OpenSpec.ofChange Rows.libraryOnceSpec) :=
  OpenClaim.holds_of_wide 5 Tryz.f5 rfl rfl rfl rfl rfl rfl rfl ⟨rfl, rfl, rfl, rfl, rfl⟩ rfl rfl rfl rfl rfl (by kernel_rfl) Tryz.func5 (by kernel_rfl)
    (of_decide_eq_true (by kernel_rfl)) (by unfold Func.isWrapper; first | (rw [if_pos (by decide +kernel)]; kernel_rfl) | (rw [if_neg (by decide +kernel)]; exact ⟨rfl, rfl⟩))
    (fun os started H enc _ => lifted os started H enc)
end Go.Proofs.YtppjmigiogddpaaGreat.libraryOnce
namespace Go.Proofs.YtppjmigiogddpaaGreat
/-- The row, under a short name, for the claim. -/
theorem libraryOnce_holds : Rows.LibraryOnceSaid := libraryOnce.over
#print axioms libraryOnce_holds
end Go.Proofs.YtppjmigiogddpaaGreat
