/-
What is proved: the law LibraryBack of the given program answers true for every input, and leaves its arguments as they were.
Conditions: none but those of the given statement itself. The name of a string comes back, an object moved and moved back stands as it stood, and so does a list.
-/
import Derived.Test.YtppjmigiogddpaaGreatR0
import Derived.Test.YtppjmigiogddpaaGreatR2
namespace Go.Proofs.YtppjmigiogddpaaGreat.libraryBack
open Go Go.Proofs Go.Proofs.YtppjmigiogddpaaGreat.Ab Go.Proofs.YtppjmigiogddpaaGreat.C08 Go.ChangeShapes Go.WideShapes Go.ChangeAt Go.RowKit

set_option maxRecDepth 100000 in
theorem lifted (os : Os) (started : os.Started) (H : Type) (enc : TypeId × Value → H) :
    ReturnsInHanded {} Tryz.checked os 6 .any (Rows.libraryBackSpec.pre6 enc Tryz.prog Tryz.f6 Rows.libraryBackRow.domain false) (Rows.libraryBackSpec.post enc Tryz.prog Tryz.f6 false true false false) := by
  refine returnsInHanded_of_change_sized (C := Tryz.checked) C08.ownKnob started (by kernel_rfl) Tryz.func6
    (ChangeSpec.witness6 (enc := enc) (C := Tryz.checked) false ⟨#[], #[.agg #[.slice none 0 0, .int .i64 0, .slice none 0 0, .string ByteArray.empty, .slice none 0 0, .string ByteArray.empty, .int .i64 0, .string ByteArray.empty], .agg #[.string ByteArray.empty, .string ByteArray.empty, .bool false], .agg #[.string ByteArray.empty, .string ByteArray.empty, .int .i64 0]], []⟩ 8 (by kernel_rfl) (by kernel_rfl) (by kernel_rfl) (by kernel_rfl)) ?_
  intro W base args ds gs before hval0 hW hcnd hsz0 _
  exact law_calls laidOut rfl Tryz.underlying4 (by rw [Tryz.params6]) (by kernel_rfl) rfl
    (fun ds hd => by match ds, hd with | [_, _, _], _ => rfl)
    (Args.cons aRound (Args.cons aQN (Args.cons aOName Args.nil))) (fun a _ => (LibraryBack_good a.1 a.2.1 a.2.2.1).2) W base args ds gs before hval0 hW
theorem over : Rows.libraryBackRow.holds Tryz.pinned (OpenSpec.ofChange Rows.libraryBackSpec) :=
  OpenClaim.holds_of_wide 6 Tryz.f6 rfl rfl rfl rfl rfl rfl rfl ⟨rfl, rfl, rfl, rfl, rfl⟩ rfl rfl rfl rfl rfl (by kernel_rfl) Tryz.func6 (by kernel_rfl)
    (of_decide_eq_true (by kernel_rfl)) (by unfold Func.isWrapper; first | (rw [if_pos (by decide +kernel)]; kernel_rfl) | (rw [if_neg (by decide +kernel)]; exact ⟨rfl, rfl⟩))
    (fun os started H enc _ => lifted os started H enc)
end Go.Proofs.YtppjmigiogddpaaGreat.libraryBack
namespace Go.Proofs.YtppjmigiogddpaaGreat
/-- The row, under a short name, for the claim. -/
theorem libraryBack_holds : Rows.LibraryBackSaid := libraryBack.over
#print axioms libraryBack_holds
end Go.Proofs.YtppjmigiogddpaaGreat
