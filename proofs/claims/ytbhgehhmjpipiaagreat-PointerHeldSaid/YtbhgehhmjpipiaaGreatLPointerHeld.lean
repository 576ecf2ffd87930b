/-
What is proved: the law PointerHeld of the given program answers true for every input, and leaves its arguments as they were.
Conditions: none but those of the given statement itself. It says that the capabilities that the jobs hold, or the error, are as the reference says.
-/
import Derived.Test.YtbhgehhmjpipiaaGreatR0
import Derived.Test.YtbhgehhmjpipiaaGreatH3
namespace Go.Proofs.YtbhgehhmjpipiaaGreat.pointerHeld
open Go Go.Proofs Go.Proofs.YtbhgehhmjpipiaaGreat.Ab Go.Proofs.YtbhgehhmjpipiaaGreat.C12 Go.Proofs.YtbhgehhmjpipiaaGreat.C10 Go.ChangeShapes Go.WideShapes Go.ChangeAt Go.RowKit

set_option maxRecDepth 100000 in
theorem lifted (os : Os) (started : os.Started) (H : Type) (enc : TypeId × Value → H) :
    ReturnsInHanded {} Tryz.checked os 8 .any (Rows.pointerHeldSpec.pre6 enc Tryz.prog Tryz.f8 Rows.pointerHeldRow.domain false) (Rows.pointerHeldSpec.post enc Tryz.prog Tryz.f8 false true false false) := by
  refine returnsInHanded_of_change_sized (C := Tryz.checked) C12.ownKnob started (by kernel_rfl) Tryz.func8
    (ChangeSpec.witness6 (enc := enc) (C := Tryz.checked) false ⟨#[], #[.agg #[.slice none 0 0, .slice none 0 0, .slice none 0 0, .slice none 0 0], .agg #[.slice none 0 0, .slice none 0 0]], []⟩ 8 (by kernel_rfl) (by kernel_rfl) (by kernel_rfl) (by kernel_rfl)) ?_
  intro W base args ds gs before hval0 hW hcnd hsz0 _
  exact law_calls laidOut rfl Tryz.underlying4 (by rw [Tryz.params8]) (by kernel_rfl) rfl
    (fun ds hd => by match ds, hd with | [_, _], _ => rfl)
    (Args.cons aCase (Args.cons aSt Args.nil)) (fun a _ => (PointerHeld_good a.1 a.2.1).2) W base args ds gs before hval0 hW
theorem over : Rows.pointerHeldRow.holds Tryz.pinned (OpenSpec.ofChange Rows.pointerHeldSpec) :=
  OpenClaim.holds_of_wide 8 Tryz.f8 rfl rfl rfl rfl rfl rfl rfl ⟨rfl, rfl, rfl, rfl, rfl⟩ rfl rfl rfl rfl rfl (by kernel_rfl) Tryz.func8 (by kernel_rfl)
    (of_decide_eq_true (by kernel_rfl)) (by unfold Func.isWrapper; first | (rw [if_pos (by decide +kernel)]; kernel_rfl) | (rw [if_neg (by decide +kernel)]; exact ⟨rfl, rfl⟩))
    (fun os started H enc _ => lifted os started H enc)
end Go.Proofs.YtbhgehhmjpipiaaGreat.pointerHeld
namespace Go.Proofs.YtbhgehhmjpipiaaGreat
/-- The row, under a short name, for the claim. -/
theorem pointerHeld_holds : Rows.PointerHeldSaid := pointerHeld.over
#print axioms pointerHeld_holds
end Go.Proofs.YtbhgehhmjpipiaaGreat
