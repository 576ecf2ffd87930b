/-
What is proved: the law DiskOldOrNew of the given program answers true for every input, and leaves its arguments as they were.
Conditions: none but those of the given statement itself. It says that after a power failure of a redundant disk, made redundant again, it is redundant, and each sector has the bytes that it had or those of one of the writes to it.
-/
import Derived.Test.YtdfdagfgkijpcaaR0
import Derived.Test.YtdfdagfgkijpcaaA24
namespace Go.Proofs.Ytdfdagfgkijpcaa.diskOldOrNew
open Go Go.Proofs Go.Proofs.Ytdfdagfgkijpcaa.Ab Go.Proofs.Ytdfdagfgkijpcaa.C06 Go.ChangeShapes Go.WideShapes Go.ChangeAt Go.RowKit

set_option maxRecDepth 100000 in
theorem lifted (os : Os) (started : os.Started) (H : Type) (enc : TypeId × Value → H) :
    ReturnsInHanded {} Try.checked os 7 .any (Rows.diskOldOrNewSpec.pre6 enc Try.prog Try.f7 Rows.diskOldOrNewRow.domain false) (Rows.diskOldOrNewSpec.post enc Try.prog Try.f7 false true false false) := by
  refine returnsInHanded_of_change_sized (C := Try.checked) C06.ownKnob started (by kernel_rfl) Try.func7
    (ChangeSpec.witness6 (enc := enc) (C := Try.checked) false ⟨#[], #[.agg #[.int .i64 0, .int .i64 0, .slice none 0 0], .slice none 0 0, .slice none 0 0], []⟩ 8 (by kernel_rfl) (by kernel_rfl) (by kernel_rfl) (by kernel_rfl)) ?_
  intro W base args ds gs before hval0 hW hcnd hsz0 _
  exact law_calls laidOut rfl Try.underlying4 (by rw [Try.params7]) (by kernel_rfl) rfl
    (fun ds hd => by match ds, hd with | [_, _, _], _ => rfl)
    (Args.cons aDisk (Args.cons aSWs (Args.cons aInts Args.nil))) (fun a _ => (DiskOldOrNew_good a.1 a.2.1 a.2.2.1).2) W base args ds gs before hval0 hW
theorem over : Rows.diskOldOrNewRow.holds Try.pinned (OpenSpec.ofChange Rows.diskOldOrNewSpec) :=
  OpenClaim.holds_of_wide 7 Try.f7 rfl rfl rfl rfl rfl rfl rfl ⟨rfl, rfl, rfl, rfl, rfl⟩ rfl rfl rfl rfl rfl (by kernel_rfl) Try.func7 (by kernel_rfl)
    (of_decide_eq_true (by kernel_rfl)) (by unfold Func.isWrapper; first | (rw [if_pos (by decide +kernel)]; kernel_rfl) | (rw [if_neg (by decide +kernel)]; exact ⟨rfl, rfl⟩))
    (fun os started H enc _ => lifted os started H enc)
end Go.Proofs.Ytdfdagfgkijpcaa.diskOldOrNew
namespace Go.Proofs.Ytdfdagfgkijpcaa
/-- The row, under a short name, for the claim. -/
theorem diskOldOrNew_holds : Rows.DiskOldOrNewSaid := diskOldOrNew.over
#print axioms diskOldOrNew_holds
end Go.Proofs.Ytdfdagfgkijpcaa
