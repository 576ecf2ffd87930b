/-
What is proved: the law PointerCases of the given program answers true for every input, and leaves its arguments as they were.
Conditions: none but those of the given statement itself. It says that the checks of a case and its first state are as the reference says.
-/
import Derived.Test.YtbhgehhmjpipiaaGreatR0
import Derived.Test.YtbhgehhmjpipiaaGreatG2
namespace Go.Proofs.YtbhgehhmjpipiaaGreat.pointerCases
open Go Go.Proofs Go.Proofs.YtbhgehhmjpipiaaGreat.Ab Go.Proofs.YtbhgehhmjpipiaaGreat.C12 Go.Proofs.YtbhgehhmjpipiaaGreat.C10 Go.ChangeShapes Go.WideShapes Go.ChangeAt Go.RowKit

set_option maxRecDepth 100000 in
theorem lifted (os : Os) (started : os.Started) (H : Type) (enc : TypeId × Value → H) :
    ReturnsInHanded {} Tryz.checked os 9 .any (Rows.pointerCasesSpec.pre6 enc Tryz.prog Tryz.f9 Rows.pointerCasesRow.domain false) (Rows.pointerCasesSpec.post enc Tryz.prog Tryz.f9 false true false false) := by
  refine returnsInHanded_of_change_sized (C := Tryz.checked) C12.ownKnob started (by kernel_rfl) Tryz.func9
    (ChangeSpec.witness6 (enc := enc) (C := Tryz.checked) false ⟨#[], #[.agg #[.slice none 0 0, .slice none 0 0, .slice none 0 0, .slice none 0 0]], []⟩ 8 (by kernel_rfl) (by kernel_rfl) (by kernel_rfl) (by kernel_rfl)) ?_
  intro W base args ds gs before hval0 hW hcnd hsz0 _
  exact law_calls laidOut rfl Tryz.underlying4 (by rw [Tryz.params9]) (by kernel_rfl) rfl
    (fun ds hd => by match ds, hd with | [_], _ => rfl)
    (Args.cons aCase Args.nil) (fun a _ => (PointerCases_good a.1).2) W base args ds gs before hval0 hW
theorem over : Rows.pointerCasesRow.holds Tryz.pinned (OpenSpec.ofChange Rows.pointerCasesSpec) :=
  OpenClaim.holds_of_wide 9 Tryz.f9 rfl rfl rfl rfl rfl rfl rfl ⟨rfl, rfl, rfl, rfl, rfl⟩ rfl rfl rfl rfl rfl (by kernel_rfl) Tryz.func9 (by kernel_rfl)
    (of_decide_eq_true (by kernel_rfl)) (by unfold Func.isWrapper; first | (rw [if_pos (by decide +kernel)]; kernel_rfl) | (rw [if_neg (by decide +kernel)]; exact ⟨rfl, rfl⟩))
    (fun os started H enc _ => lifted os started H enc)
end Go.Proofs.YtbhgehhmjpipiaaGreat.pointerCases
namespace Go.Proofs.YtbhgehhmjpipiaaGreat
/-- The row, under a short name, for the claim. -/
theorem pointerCases_holds : Rows.PointerCasesSaid := pointerCases.over
#print axioms pointerCases_holds
end Go.Proofs.YtbhgehhmjpipiaaGreat
