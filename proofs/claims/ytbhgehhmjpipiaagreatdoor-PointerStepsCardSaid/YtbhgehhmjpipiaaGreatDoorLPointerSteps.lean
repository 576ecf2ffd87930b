/-
What is proved: the tied card of the law PointerSteps: the given program answers true for every input, and leaves its arguments as they were.
Conditions: none but those of the given statement itself: the table of the fields that operations use is tied to the program's text. It says that the state after an operation, or the error, is as the reference says.
-/
import Derived.Test.YtbhgehhmjpipiaaGreatDoorR1
import Derived.Test.YtbhgehhmjpipiaaGreatDoorU2
import Derived.Test.YtbhgehhmjpipiaaGreatDoorTie
import Derived.Test.YtbhgehhmjpipiaaGreatDoorCards
import Derived.SevenTiedAt
namespace Go.Proofs.YtbhgehhmjpipiaaGreatDoor.pointerSteps
open Go Go.Proofs Go.Proofs.YtbhgehhmjpipiaaGreatDoor.Ab Go.Proofs.YtbhgehhmjpipiaaGreatDoor.C12 Go.Proofs.YtbhgehhmjpipiaaGreatDoor.C10 Go.ChangeShapes Go.WideShapes Go.ChangeAt Go.WideMaps Go.WideElems Go.RowKit
set_option maxRecDepth 100000 in
theorem lifted (os : Os) (started : os.Started) (H : Type) (enc : TypeId × Value → H) :
 ReturnsInHanded {} Tryz.checked os 5 .any (fun w args => (Rows.pointerStepsSpec.pre enc Tryz.prog Tryz.f5 [] false w args ∧ laidMetH Tryz.prog laidU w) ∧ sizedMet enc Tryz.prog Tryz.f5 (OpenSpec.ofChange Rows.pointerStepsSpec) false w args)
  (Rows.pointerStepsSpec.post enc Tryz.prog Tryz.f5 false true false false) := by
 refine returnsInHanded_of_change_and (C := Tryz.checked) (X := fun w _ => laidMetH Tryz.prog laidU w) (fun _ _ _ hh h => h.of_heap hh) C12.ownKnob started (by kernel_rfl) Tryz.func5
  (ChangeSpec.witness_shaped (enc := enc) (C := Tryz.checked) (os := os) (X := fun w _ => laidMetH Tryz.prog laidU w) false (World.doorLaid Tryz.prog 400 os) #[.agg #[.slice none 0 0, .slice none 0 0, .slice none 0 0, .slice none 0 0], .agg #[.slice none 0 0, .slice none 0 0], .agg #[.int .i64 0, .int .i64 0, .int .i64 0, .int .i64 0, .int .i64 0, .int .i64 0, .int .i64 0, .string ⟨#[]⟩]] 8 rfl (World.shaped_of_RefB (by kernel_rfl) (by kernel_rfl)) (by kernel_rfl) (by kernel_rfl) (by kernel_rfl) (door_met os _)) ?_
 intro W base args ds gs before hval0 hW _ _ hL _
 exact law_calls laidOut rfl Tryz.underlying4 (by rw [Tryz.params5]) (by kernel_rfl) rfl
  (fun ds hd => by match ds, hd with | [_, _, _], _ => rfl)
  (Args.cons aCase (Args.cons aSt (Args.cons aCOp Args.nil))) (fun a _ => (PointerSteps_good a.1 a.2.1 a.2.2.1).2) W (gl_of hL) base args ds gs before hval0 hW
theorem over : Rows.pointerStepsRow.holds Tryz.pinned (OpenSpec.ofChange Rows.pointerStepsSpec) :=
 OpenClaim.holds_of_wide 5 Tryz.f5 rfl rfl rfl rfl rfl rfl rfl ⟨rfl, rfl, rfl, rfl, rfl⟩ rfl rfl rfl rfl rfl (by kernel_rfl) Tryz.func5 (by kernel_rfl)
  (of_decide_eq_true (by kernel_rfl)) (by unfold Func.isWrapper; first | (rw [if_pos (by decide +kernel)]; kernel_rfl) | (rw [if_neg (by decide +kernel)]; exact ⟨rfl, rfl⟩))
  (fun os started H enc _ => lifted os started H enc)
theorem card : Rows.PointerStepsCardSaid :=
 Claim7.holds_tied_plain_at .later [] [.data] true (true, "b7fb25b739e641ec6f2dec0d02fb77e4cdc15d522bf553039f9f2483421a3467") false
  over (fun _ h => by cases h) (by kernel_rfl) (fun _ h => by cases h) pointerSteps_row_tie rfl ⟨rfl, rfl⟩ (by kernel_rfl) rfl
  (fun f fn hf hfn => by
    obtain rfl : f = 5 := Option.some.inj ((show Tryz.prog.funcNamed "midrange/midrangelaw12.PointerSteps" = some 5 by kernel_rfl).symm.trans hf) |>.symm
    obtain rfl : fn = Tryz.f5 := (Option.some.inj (Tryz.func5.symm.trans hfn)).symm
    exact ⟨by kernel_rfl, fun j t ht => by
     rw [Tryz.params5] at ht
     have hm : t ∈ [29, 37, 66] := by simpa using Array.mem_of_getElem? ht
     have hall : ([29, 37, 66].all fun u => !Tryz.prog.wantsStandIn u) = true := by kernel_rfl
     exact (show Tryz.prog.wantsStandIn t = false by simpa using List.all_eq_true.1 hall t hm)⟩)
  (by kernel_rfl)
end Go.Proofs.YtbhgehhmjpipiaaGreatDoor.pointerSteps
namespace Go.Proofs.YtbhgehhmjpipiaaGreatDoor
theorem pointerSteps_holds : Rows.PointerStepsCardSaid := pointerSteps.card
#print axioms pointerSteps_holds
end Go.Proofs.YtbhgehhmjpipiaaGreatDoor
