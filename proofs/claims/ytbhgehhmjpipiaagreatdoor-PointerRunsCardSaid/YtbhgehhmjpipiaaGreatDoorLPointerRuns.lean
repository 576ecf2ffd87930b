/-
What is proved: the tied card of the law PointerRuns: the given program answers true for every input, and leaves its arguments as they were.
Conditions: none but those of the given statement itself: the table of the fields that operations use is tied to the program's text. It says that the state after operations, and the error of each, are as the reference says, or the error.
-/
import Derived.Test.YtbhgehhmjpipiaaGreatDoorR1
import Derived.Test.YtbhgehhmjpipiaaGreatDoorU3
import Derived.Test.YtbhgehhmjpipiaaGreatDoorTie
import Derived.Test.YtbhgehhmjpipiaaGreatDoorCards
import Derived.SevenTiedAt
namespace Go.Proofs.YtbhgehhmjpipiaaGreatDoor.pointerRuns
open Go Go.Proofs Go.Proofs.YtbhgehhmjpipiaaGreatDoor.Ab Go.Proofs.YtbhgehhmjpipiaaGreatDoor.C12 Go.Proofs.YtbhgehhmjpipiaaGreatDoor.C10 Go.ChangeShapes Go.WideShapes Go.ChangeAt Go.WideMaps Go.WideElems Go.RowKit
set_option maxRecDepth 100000 in
theorem lifted (os : Os) (started : os.Started) (H : Type) (enc : TypeId × Value → H) :
 ReturnsInHanded {} Tryz.checked os 7 .any (fun w args => (Rows.pointerRunsSpec.pre enc Tryz.prog Tryz.f7 [] false w args ∧ laidMetH Tryz.prog laidU w) ∧ sizedMet enc Tryz.prog Tryz.f7 (OpenSpec.ofChange Rows.pointerRunsSpec) false w args)
  (Rows.pointerRunsSpec.post enc Tryz.prog Tryz.f7 false true false false) := by
 refine returnsInHanded_of_change_and (C := Tryz.checked) (X := fun w _ => laidMetH Tryz.prog laidU w) (fun _ _ _ hh h => h.of_heap hh) C12.ownKnob started (by kernel_rfl) Tryz.func7
  (ChangeSpec.witness_shaped (enc := enc) (C := Tryz.checked) (os := os) (X := fun w _ => laidMetH Tryz.prog laidU w) false (World.doorLaid Tryz.prog 400 os) #[.agg #[.slice none 0 0, .slice none 0 0, .slice none 0 0, .slice none 0 0], .slice none 0 0] 8 rfl (World.shaped_of_RefB (by kernel_rfl) (by kernel_rfl)) (by kernel_rfl) (by kernel_rfl) (by kernel_rfl) (door_met os _)) ?_
 intro W base args ds gs before hval0 hW _ _ hL _
 exact law_calls laidOut rfl Tryz.underlying4 (by rw [Tryz.params7]) (by kernel_rfl) rfl
  (fun ds hd => by match ds, hd with | [_, _], _ => rfl)
  (Args.cons aCase (Args.cons aCOps Args.nil)) (fun a _ => (PointerRuns_good a.1 a.2.1).2) W (gl_of hL) base args ds gs before hval0 hW
theorem over : Rows.pointerRunsRow.holds Tryz.pinned (OpenSpec.ofChange Rows.pointerRunsSpec) :=
 OpenClaim.holds_of_wide 7 Tryz.f7 rfl rfl rfl rfl rfl rfl rfl ⟨rfl, rfl, rfl, rfl, rfl⟩ rfl rfl rfl rfl rfl (by kernel_rfl) Tryz.func7 (by kernel_rfl)
  (of_decide_eq_true (by kernel_rfl)) (by unfold Func.isWrapper; first | (rw [if_pos (by decide +kernel)]; kernel_rfl) | (rw [if_neg (by decide +kernel)]; exact ⟨rfl, rfl⟩))
  (fun os started H enc _ => lifted os started H enc)
theorem card : Rows.PointerRunsCardSaid :=
 Claim7.holds_tied_plain_at .later [] [.data] true (true, "b7fb25b739e641ec6f2dec0d02fb77e4cdc15d522bf553039f9f2483421a3467") false
  over (fun _ h => by cases h) (by kernel_rfl) (fun _ h => by cases h) pointerRuns_row_tie rfl ⟨rfl, rfl⟩ (by kernel_rfl) rfl
  (fun f fn hf hfn => by
    obtain rfl : f = 7 := Option.some.inj ((show Tryz.prog.funcNamed "midrange/midrangelaw12.PointerRuns" = some 7 by kernel_rfl).symm.trans hf) |>.symm
    obtain rfl : fn = Tryz.f7 := (Option.some.inj (Tryz.func7.symm.trans hfn)).symm
    exact ⟨by kernel_rfl, fun j t ht => by
     rw [Tryz.params7] at ht
     have hm : t ∈ [29, 30] := by simpa using Array.mem_of_getElem? ht
     have hall : ([29, 30].all fun u => !Tryz.prog.wantsStandIn u) = true := by kernel_rfl
     exact (show Tryz.prog.wantsStandIn t = false by simpa using List.all_eq_true.1 hall t hm)⟩)
  (by kernel_rfl)
end Go.Proofs.YtbhgehhmjpipiaaGreatDoor.pointerRuns
namespace Go.Proofs.YtbhgehhmjpipiaaGreatDoor
theorem pointerRuns_holds : Rows.PointerRunsCardSaid := pointerRuns.card
#print axioms pointerRuns_holds
end Go.Proofs.YtbhgehhmjpipiaaGreatDoor
