/-
What is proved: the law DiskRebuilds of the given program answers true for every input, and leaves its arguments as they were.
Conditions: none but those of the given statement itself. It says that a unit that failed and was replaced is rebuilt as it was.
-/
import Derived.Test.YtdfdagfgkijpcaaR0
import Derived.Test.YtdfdagfgkijpcaaA22
namespace Go.Proofs.Ytdfdagfgkijpcaa.diskRebuilds
open Go Go.Proofs Go.Proofs.Ytdfdagfgkijpcaa.Ab Go.Proofs.Ytdfdagfgkijpcaa.C06 Go.ChangeShapes Go.WideShapes Go.ChangeAt Go.RowKit

set_option maxRecDepth 100000 in
theorem lifted (os : Os) (started : os.Started) (H : Type) (enc : TypeId × Value → H) :
    ReturnsInHanded {} Try.checked os 6 .any (Rows.diskRebuildsSpec.pre6 enc Try.prog Try.f6 Rows.diskRebuildsRow.domain false) (Rows.diskRebuildsSpec.post enc Try.prog Try.f6 false true false false) := by
  refine returnsInHanded_of_change_sized (C := Try.checked) C06.ownKnob started (by kernel_rfl) Try.func6
    (ChangeSpec.witness6 (enc := enc) (C := Try.checked) false ⟨#[], #[.agg #[.int .i64 0, .int .i64 0, .slice none 0 0], .int .i64 0, .slice none 0 0], []⟩ 8 (by kernel_rfl) (by kernel_rfl) (by kernel_rfl) (by kernel_rfl)) ?_
  intro W base args ds gs before hval0 hW hcnd hsz0 _
  exact law_calls laidOut rfl Try.underlying4 (by rw [Try.params6]) (by kernel_rfl) rfl
    (fun ds hd => by match ds, hd with | [_, _, _], _ => rfl)
    (Args.cons aDisk (Args.cons aInt (Args.cons aSWs Args.nil))) (fun a _ => (DiskRebuilds_good a.1 a.2.1 a.2.2.1).2) W base args ds gs before hval0 hW
theorem over : Rows.diskRebuildsRow.holds Try.pinned (OpenSpec.ofChange Rows.diskRebuildsSpec) :=
  OpenClaim.holds_of_wide 6 Try.f6 rfl rfl rfl rfl rfl rfl rfl ⟨rfl, rfl, rfl, rfl, rfl⟩ rfl rfl rfl rfl rfl (by kernel_rfl) Try.func6 (by kernel_rfl)
    (of_decide_eq_true (by kernel_rfl)) (by unfold Func.isWrapper; first | (rw [if_pos (by decide +kernel)]; kernel_rfl) | (rw [if_neg (by decide +kernel)]; exact ⟨rfl, rfl⟩))
    (fun os started H enc _ => lifted os started H enc)
end Go.Proofs.Ytdfdagfgkijpcaa.diskRebuilds
namespace Go.Proofs.Ytdfdagfgkijpcaa
/-- The row, under a short name, for the claim. -/
theorem diskRebuilds_holds : Rows.DiskRebuildsSaid := diskRebuilds.over
#print axioms diskRebuilds_holds
end Go.Proofs.Ytdfdagfgkijpcaa
