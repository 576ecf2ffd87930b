/-
  DERIVED. GIVEN WITH THE SEED: THE CARDS: each row of YtbhgehhmjpipiaaGreatDoorRows.lean that lists a variable, with what it lists TIED to the program's text (the seventh form; the later family's looks); each row that meets fmt, with fmt's text TOLD by the authors' own Lean function (tested against real Go, not proved from fmt's source: count such statements apart). THE CARD IS WHAT COUNTS. Prove the row's statement (the work); the ties are given (YtbhgehhmjpipiaaGreatDoorTie.lean); close each card by the builder's one call (the guide's Derived/Test/ToyasCard.lean, 'card_holds'). Laid BY PROGRAM, IN A SANDBOX (cutbox-door.mjs). By AI agents, Wed Nov 11 2026. No macro, syntax, notation, axiom, sorry.
-/
import Derived.Test.YtbhgehhmjpipiaaGreatDoorRows
import GoSem.ClaimSeven
namespace Go.Proofs.YtbhgehhmjpipiaaGreatDoor
namespace Rows

/-- THE TIED CARD OF 'midrangelaw12.PointerUnforged'. -/
def pointerUnforgedCard : Claim7 := { stood := { row := pointerUnforgedRow, standIns := [], harness := (true, "b7fb25b739e641ec6f2dec0d02fb77e4cdc15d522bf553039f9f2483421a3467"), looks := false }, kinds := [], alts := [], laidByText := true, laidKinds := [.data], laidTests := true, laidLooks := .later }
def PointerUnforgedCardSaid : Prop := Claim7.holds Tryz.pinned (.plain (OpenSpec.ofChange pointerUnforgedSpec)) pointerUnforgedCard

/-- THE TIED CARD OF 'midrangelaw12.PointerComplete'. -/
def pointerCompleteCard : Claim7 := { stood := { row := pointerCompleteRow, standIns := [], harness := (true, "b7fb25b739e641ec6f2dec0d02fb77e4cdc15d522bf553039f9f2483421a3467"), looks := false }, kinds := [], alts := [], laidByText := true, laidKinds := [.data], laidTests := true, laidLooks := .later }
def PointerCompleteCardSaid : Prop := Claim7.holds Tryz.pinned (.plain (OpenSpec.ofChange pointerCompleteSpec)) pointerCompleteCard

/-- THE TIED CARD OF 'midrangelaw12.PointerSteps'. -/
def pointerStepsCard : Claim7 := { stood := { row := pointerStepsRow, standIns := [], harness := (true, "b7fb25b739e641ec6f2dec0d02fb77e4cdc15d522bf553039f9f2483421a3467"), looks := false }, kinds := [], alts := [], laidByText := true, laidKinds := [.data], laidTests := true, laidLooks := .later }
def PointerStepsCardSaid : Prop := Claim7.holds Tryz.pinned (.plain (OpenSpec.ofChange pointerStepsSpec)) pointerStepsCard

/-- THE TIED CARD OF 'midrangelaw12.PointerDestroys'. -/
def pointerDestroysCard : Claim7 := { stood := { row := pointerDestroysRow, standIns := [], harness := (true, "b7fb25b739e641ec6f2dec0d02fb77e4cdc15d522bf553039f9f2483421a3467"), looks := false }, kinds := [], alts := [], laidByText := true, laidKinds := [.data], laidTests := true, laidLooks := .later }
def PointerDestroysCardSaid : Prop := Claim7.holds Tryz.pinned (.plain (OpenSpec.ofChange pointerDestroysSpec)) pointerDestroysCard

/-- THE TIED CARD OF 'midrangelaw12.PointerRuns'. -/
def pointerRunsCard : Claim7 := { stood := { row := pointerRunsRow, standIns := [], harness := (true, "b7fb25b739e641ec6f2dec0d02fb77e4cdc15d522bf553039f9f2483421a3467"), looks := false }, kinds := [], alts := [], laidByText := true, laidKinds := [.data], laidTests := true, laidLooks := .later }
def PointerRunsCardSaid : Prop := Claim7.holds Tryz.pinned (.plain (OpenSpec.ofChange pointerRunsSpec)) pointerRunsCard

/-- THE SECOND FORM's CARD OF 'midrangelaw12.PointerUnforged'. -/
def pointerUnforgedUptoCard : Claim7 := { stood := { row := pointerUnforgedUptoRow, standIns := [], harness := (true, "b7fb25b739e641ec6f2dec0d02fb77e4cdc15d522bf553039f9f2483421a3467"), looks := false }, kinds := [], alts := [], laidByText := true, laidKinds := [.data], laidTests := true, laidLooks := .later }
def PointerUnforgedUptoCardSaid : Prop := Claim7.holds Tryz.pinned (.plain (OpenSpec.upto pointerUnforgedSpec)) pointerUnforgedUptoCard

/-- THE SECOND FORM's CARD OF 'midrangelaw12.PointerComplete'. -/
def pointerCompleteUptoCard : Claim7 := { stood := { row := pointerCompleteUptoRow, standIns := [], harness := (true, "b7fb25b739e641ec6f2dec0d02fb77e4cdc15d522bf553039f9f2483421a3467"), looks := false }, kinds := [], alts := [], laidByText := true, laidKinds := [.data], laidTests := true, laidLooks := .later }
def PointerCompleteUptoCardSaid : Prop := Claim7.holds Tryz.pinned (.plain (OpenSpec.upto pointerCompleteSpec)) pointerCompleteUptoCard

/-- THE SECOND FORM's CARD OF 'midrangelaw12.PointerSteps'. -/
def pointerStepsUptoCard : Claim7 := { stood := { row := pointerStepsUptoRow, standIns := [], harness := (true, "b7fb25b739e641ec6f2dec0d02fb77e4cdc15d522bf553039f9f2483421a3467"), looks := false }, kinds := [], alts := [], laidByText := true, laidKinds := [.data], laidTests := true, laidLooks := .later }
def PointerStepsUptoCardSaid : Prop := Claim7.holds Tryz.pinned (.plain (OpenSpec.upto pointerStepsSpec)) pointerStepsUptoCard

/-- THE SECOND FORM's CARD OF 'midrangelaw12.PointerDestroys'. -/
def pointerDestroysUptoCard : Claim7 := { stood := { row := pointerDestroysUptoRow, standIns := [], harness := (true, "b7fb25b739e641ec6f2dec0d02fb77e4cdc15d522bf553039f9f2483421a3467"), looks := false }, kinds := [], alts := [], laidByText := true, laidKinds := [.data], laidTests := true, laidLooks := .later }
def PointerDestroysUptoCardSaid : Prop := Claim7.holds Tryz.pinned (.plain (OpenSpec.upto pointerDestroysSpec)) pointerDestroysUptoCard

/-- THE SECOND FORM's CARD OF 'midrangelaw12.PointerRuns'. -/
def pointerRunsUptoCard : Claim7 := { stood := { row := pointerRunsUptoRow, standIns := [], harness := (true, "b7fb25b739e641ec6f2dec0d02fb77e4cdc15d522bf553039f9f2483421a3467"), looks := false }, kinds := [], alts := [], laidByText := true, laidKinds := [.data], laidTests := true, laidLooks := .later }
def PointerRunsUptoCardSaid : Prop := Claim7.holds Tryz.pinned (.plain (OpenSpec.upto pointerRunsSpec)) pointerRunsUptoCard
end Rows
end Go.Proofs.YtbhgehhmjpipiaaGreatDoor
