/-
What is proved: the law PointerWitnesses of the given program answers true for every input, and leaves its arguments as they were.
Conditions: none but those of the given statement itself. It says that behind the operations of a witness, all of them without an error, the job holds the capability, and that without one it is not in the closure.
-/
import Derived.Test.YtbhgehhmjpipiaaGreatR0
import Derived.Test.YtbhgehhmjpipiaaGreatW1
namespace Go.Proofs.YtbhgehhmjpipiaaGreat.pointerWitnesses
open Go Go.Proofs Go.Proofs.YtbhgehhmjpipiaaGreat.Ab Go.Proofs.YtbhgehhmjpipiaaGreat.C12 Go.Proofs.YtbhgehhmjpipiaaGreat.C10 Go.ChangeShapes Go.WideShapes Go.ChangeAt Go.RowKit

set_option maxRecDepth 100000 in
theorem lifted (os : Os) (started : os.Started) (H : Type) (enc : TypeId × Value → H) :
    ReturnsInHanded {} Tryz.checked os 4 .any (Rows.pointerWitnessesSpec.pre6 enc Tryz.prog Tryz.f4 Rows.pointerWitnessesRow.domain false) (Rows.pointerWitnessesSpec.post enc Tryz.prog Tryz.f4 false true false false) := by
  refine returnsInHanded_of_change_sized (C := Tryz.checked) C12.ownKnob started (by kernel_rfl) Tryz.func4
    (ChangeSpec.witness6 (enc := enc) (C := Tryz.checked) false ⟨#[], #[.agg #[.slice none 0 0, .slice none 0 0, .slice none 0 0, .slice none 0 0], .agg #[.int .i64 0, .int .i64 0, .int .i64 0, .int .i64 0]], []⟩ 8 (by kernel_rfl) (by kernel_rfl) (by kernel_rfl) (by kernel_rfl)) ?_
  intro W base args ds gs before hval0 hW hcnd hsz0 _
  exact law_calls laidOut rfl Tryz.underlying4 (by rw [Tryz.params4]) (by kernel_rfl) rfl
    (fun ds hd => by match ds, hd with | [_, _], _ => rfl)
    (Args.cons aCase (Args.cons aCap Args.nil)) (fun a _ => (PointerWitnesses_good a.1 a.2.1).2) W base args ds gs before hval0 hW
theorem over : Rows.pointerWitnessesRow.holds Tryz.pinned (OpenSpec.ofChange Rows.pointerWitnessesSpec) :=
  OpenClaim.holds_of_wide 4 Tryz.f4 rfl rfl rfl rfl rfl rfl rfl ⟨rfl, rfl, rfl, rfl, rfl⟩ rfl rfl rfl rfl rfl (by kernel_rfl) Tryz.func4 (by kernel_rfl)
    (of_decide_eq_true (by kernel_rfl)) (by unfold Func.isWrapper; first | (rw [if_pos (by decide +kernel)]; kernel_rfl) | (rw [if_neg (by decide +kernel)]; exact ⟨rfl, rfl⟩))
    (fun os started H enc _ => lifted os started H enc)
end Go.Proofs.YtbhgehhmjpipiaaGreat.pointerWitnesses
namespace Go.Proofs.YtbhgehhmjpipiaaGreat
/-- The row, under a short name, for the claim. -/
theorem pointerWitnesses_holds : Rows.PointerWitnessesSaid := pointerWitnesses.over
#print axioms pointerWitnesses_holds
end Go.Proofs.YtbhgehhmjpipiaaGreat
