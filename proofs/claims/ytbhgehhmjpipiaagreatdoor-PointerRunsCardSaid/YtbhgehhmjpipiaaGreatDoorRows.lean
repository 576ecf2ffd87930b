/-
  NARROWER THAN 'FOR EVERY INPUT', by the rows' own cells (each row's printed sentence says how): PointerUnforged: laid · PointerComplete: laid · PointerSteps: laid · PointerDestroys: laid · PointerRuns: laid.
  DERIVED. THE GIVEN ROWS OF THIS SEAT. 5 by the template 'for every input the law returns true; each argument reads behind the call as it read before'; 0 by the template 'total and deterministic' (their statements: YtbhgehhmjpipiaaGreatDoorTotals.lean).
  GIVEN WITH THE SEED: the statements are not yours to turn. If you find one false, say at which input.
  Laid BY PROGRAM, IN A SANDBOX (cutbox-rows.mjs): the forced cells as the released guide's own fill.sh prints them over the translation 449490e1f9fb2236… (all of the seat's roots in one cut). By AI agents, Wed Nov 11 2026. No macro, syntax, notation, axiom, sorry.
-/
import Derived.Test.YtbhgehhmjpipiaaGreatDoorChecked
import GoSem.Claim
import GoSem.ClaimJoined
import GoSem.ClaimMapViews
import Derived.JoinedTies
import Derived.KernelRfl
namespace Go.Proofs.YtbhgehhmjpipiaaGreatDoor
/- THE CELL 'sum', in the pinned program and in every row, IS THE sha256 OF THE DUMP (.gsa) THAT YtbhgehhmjpipiaaGreatDoorProg.lean LOADS. Nothing in Lean hashes anything: it is a label: what it is worth is what the hold of that sum in a sandbox is worth. -/
noncomputable def Tryz.pinned : Pinned := { name := "ytbhgehhmjpipiaagreatdoor", sum := "449490e1f9fb2236385316860564adaf8b58d1c09217091a12e824a22f5026d9", checked := Tryz.checked }
namespace Rows
def none {H : Type} : Left H := { results := [], args := [] }

/- WHAT THE LISTED PACKAGE-LEVEL VARIABLES READ AS WHEN THE CALL BEGINS. Each datum BY PROGRAM (the guide's laid-datum.mjs) off the statement by which the dump's own 'gosem.cut.vars' lays the variable. In a bare row this is a premise. The card (YtbhgehhmjpipiaaGreatDoorCards.lean) ties it to the program's text. -/
def laid_midrange_pointer_uses {H : Type} : DataW H := .agg [.agg [.lit (.bool false), .lit (.bool true), .lit (.bool false), .lit (.bool false), .lit (.bool true), .lit (.bool false)], .agg [.lit (.bool false), .lit (.bool false), .lit (.bool false), .lit (.bool true), .lit (.bool false), .lit (.bool false)], .agg [.lit (.bool true), .lit (.bool true), .lit (.bool false), .lit (.bool false), .lit (.bool false), .lit (.bool false)], .agg [.lit (.bool true), .lit (.bool true), .lit (.bool false), .lit (.bool false), .lit (.bool false), .lit (.bool false)], .agg [.lit (.bool true), .lit (.bool false), .lit (.bool false), .lit (.bool false), .lit (.bool false), .lit (.bool true)], .agg [.lit (.bool true), .lit (.bool true), .lit (.bool false), .lit (.bool false), .lit (.bool false), .lit (.bool false)], .agg [.lit (.bool true), .lit (.bool true), .lit (.bool true), .lit (.bool false), .lit (.bool false), .lit (.bool false)], .agg [.lit (.bool true), .lit (.bool true), .lit (.bool true), .lit (.bool false), .lit (.bool false), .lit (.bool false)], .agg [.lit (.bool false), .lit (.bool false), .lit (.bool true), .lit (.bool true), .lit (.bool false), .lit (.bool false)]]

/-- 'midrangelaw12.PointerUnforged': WHATEVER THE INPUT: true; the input reads as it did. -/
def pointerUnforgedSpec : ChangeSpec := { name := "pointerUnforged", fn := fun _ => fun
  | [d1, d2] => { results := [.lit (.bool true)], args := [d1, d2] }
  | _ => none }
def pointerUnforgedRow : OpenClaim := { program := "ytbhgehhmjpipiaagreatdoor", sum := "449490e1f9fb2236385316860564adaf8b58d1c09217091a12e824a22f5026d9", func := "midrange/midrangelaw12.PointerUnforged", spec := "pointerUnforged", inPlace := ["internal/bytealg.abigen_runtime_cmpstring", "internal/abi.NoEscape", "internal/bytealg.MakeNoZero"], unfollowed := true, recurses := true, named := ["midrange/pointer.uses"], apart := false, laid := [("midrange/pointer.uses", laid_midrange_pointer_uses)] }
def PointerUnforgedSaid : Prop := pointerUnforgedRow.holds Tryz.pinned (OpenSpec.ofChange pointerUnforgedSpec)

/-- ITS FALSE NEIGHBOUR: 'it returns false'. Refute it at one input. -/
def pointerUnforgedWrong : ChangeSpec := { name := "pointerUnforged", fn := fun _ => fun
  | [d1, d2] => { results := [.lit (.bool false)], args := [d1, d2] }
  | _ => none }
def PointerUnforgedWrongFalsely : Prop := pointerUnforgedRow.holds Tryz.pinned (OpenSpec.ofChange pointerUnforgedWrong)

/-- 'midrangelaw12.PointerComplete': WHATEVER THE INPUT: true; the input reads as it did. -/
def pointerCompleteSpec : ChangeSpec := { name := "pointerComplete", fn := fun _ => fun
  | [d1, d2] => { results := [.lit (.bool true)], args := [d1, d2] }
  | _ => none }
def pointerCompleteRow : OpenClaim := { program := "ytbhgehhmjpipiaagreatdoor", sum := "449490e1f9fb2236385316860564adaf8b58d1c09217091a12e824a22f5026d9", func := "midrange/midrangelaw12.PointerComplete", spec := "pointerComplete", inPlace := ["internal/bytealg.abigen_runtime_cmpstring", "internal/abi.NoEscape", "internal/bytealg.MakeNoZero"], unfollowed := true, recurses := true, named := ["midrange/pointer.uses"], apart := false, laid := [("midrange/pointer.uses", laid_midrange_pointer_uses)] }
def PointerCompleteSaid : Prop := pointerCompleteRow.holds Tryz.pinned (OpenSpec.ofChange pointerCompleteSpec)

/-- ITS FALSE NEIGHBOUR: 'it returns false'. Refute it at one input. -/
def pointerCompleteWrong : ChangeSpec := { name := "pointerComplete", fn := fun _ => fun
  | [d1, d2] => { results := [.lit (.bool false)], args := [d1, d2] }
  | _ => none }
def PointerCompleteWrongFalsely : Prop := pointerCompleteRow.holds Tryz.pinned (OpenSpec.ofChange pointerCompleteWrong)

/-- 'midrangelaw12.PointerSteps': WHATEVER THE INPUT: true; the input reads as it did. -/
def pointerStepsSpec : ChangeSpec := { name := "pointerSteps", fn := fun _ => fun
  | [d1, d2, d3] => { results := [.lit (.bool true)], args := [d1, d2, d3] }
  | _ => none }
def pointerStepsRow : OpenClaim := { program := "ytbhgehhmjpipiaagreatdoor", sum := "449490e1f9fb2236385316860564adaf8b58d1c09217091a12e824a22f5026d9", func := "midrange/midrangelaw12.PointerSteps", spec := "pointerSteps", inPlace := ["internal/bytealg.abigen_runtime_cmpstring"], unfollowed := true, recurses := true, named := ["midrange/pointer.uses"], apart := false, laid := [("midrange/pointer.uses", laid_midrange_pointer_uses)] }
def PointerStepsSaid : Prop := pointerStepsRow.holds Tryz.pinned (OpenSpec.ofChange pointerStepsSpec)

/-- ITS FALSE NEIGHBOUR: 'it returns false'. Refute it at one input. -/
def pointerStepsWrong : ChangeSpec := { name := "pointerSteps", fn := fun _ => fun
  | [d1, d2, d3] => { results := [.lit (.bool false)], args := [d1, d2, d3] }
  | _ => none }
def PointerStepsWrongFalsely : Prop := pointerStepsRow.holds Tryz.pinned (OpenSpec.ofChange pointerStepsWrong)

/-- 'midrangelaw12.PointerDestroys': WHATEVER THE INPUT: true; the input reads as it did. -/
def pointerDestroysSpec : ChangeSpec := { name := "pointerDestroys", fn := fun _ => fun
  | [d1, d2, d3] => { results := [.lit (.bool true)], args := [d1, d2, d3] }
  | _ => none }
def pointerDestroysRow : OpenClaim := { program := "ytbhgehhmjpipiaagreatdoor", sum := "449490e1f9fb2236385316860564adaf8b58d1c09217091a12e824a22f5026d9", func := "midrange/midrangelaw12.PointerDestroys", spec := "pointerDestroys", inPlace := ["internal/bytealg.abigen_runtime_cmpstring"], unfollowed := true, recurses := true, named := ["midrange/pointer.uses"], apart := false, laid := [("midrange/pointer.uses", laid_midrange_pointer_uses)] }
def PointerDestroysSaid : Prop := pointerDestroysRow.holds Tryz.pinned (OpenSpec.ofChange pointerDestroysSpec)

/-- ITS FALSE NEIGHBOUR: 'it returns false'. Refute it at one input. -/
def pointerDestroysWrong : ChangeSpec := { name := "pointerDestroys", fn := fun _ => fun
  | [d1, d2, d3] => { results := [.lit (.bool false)], args := [d1, d2, d3] }
  | _ => none }
def PointerDestroysWrongFalsely : Prop := pointerDestroysRow.holds Tryz.pinned (OpenSpec.ofChange pointerDestroysWrong)

/-- 'midrangelaw12.PointerRuns': WHATEVER THE INPUT: true; the input reads as it did. -/
def pointerRunsSpec : ChangeSpec := { name := "pointerRuns", fn := fun _ => fun
  | [d1, d2] => { results := [.lit (.bool true)], args := [d1, d2] }
  | _ => none }
def pointerRunsRow : OpenClaim := { program := "ytbhgehhmjpipiaagreatdoor", sum := "449490e1f9fb2236385316860564adaf8b58d1c09217091a12e824a22f5026d9", func := "midrange/midrangelaw12.PointerRuns", spec := "pointerRuns", inPlace := ["internal/bytealg.abigen_runtime_cmpstring", "internal/abi.NoEscape", "internal/bytealg.MakeNoZero"], unfollowed := true, recurses := true, named := ["midrange/pointer.uses"], apart := false, laid := [("midrange/pointer.uses", laid_midrange_pointer_uses)] }
def PointerRunsSaid : Prop := pointerRunsRow.holds Tryz.pinned (OpenSpec.ofChange pointerRunsSpec)

/-- ITS FALSE NEIGHBOUR: 'it returns false'. Refute it at one input. -/
def pointerRunsWrong : ChangeSpec := { name := "pointerRuns", fn := fun _ => fun
  | [d1, d2] => { results := [.lit (.bool false)], args := [d1, d2] }
  | _ => none }
def PointerRunsWrongFalsely : Prop := pointerRunsRow.holds Tryz.pinned (OpenSpec.ofChange pointerRunsWrong)

/- THE SECOND FORM. 'bulk': how many values and letters a reading holds, each counted each time it is reached (what is shared counts as often as it is met; a slice's spare places count too). A statement '..UptoSaid' is the law's where the arguments, and the package variables that the reading takes, are together of bulk at most 1048576: NARROWER than '..Said'. Prove '..Said' where nothing that the law and all that it calls make is longer than what came in: it says more and counts as full. Else prove '..UptoSaid'. A law counts once. -/
mutual
def uptoBulk {H : Type} : DataW H → Nat
  | .lit (.string bytes) => bytes.length + 1
  | .lit _ => 1
  | .nil => 1
  | .ptr d => uptoBulk d + 1
  | .slice elems spare => uptoBulkAll elems + uptoBulkAll spare + 1
  | .agg parts => uptoBulkAll parts + 1
  | .iface _ d => uptoBulk d + 1
  | .map entries => uptoBulkEntries entries + 1
  | .held _ => 1
def uptoBulkAll {H : Type} : List (DataW H) → Nat
  | [] => 0
  | d :: r => uptoBulk d + uptoBulkAll r
def uptoBulkEntries {H : Type} : List (Lit × DataW H) → Nat
  | [] => 0
  | x :: r => uptoBulkEntry x + uptoBulkEntries r
def uptoBulkEntry {H : Type} : Lit × DataW H → Nat
  | (.string bytes, d) => bytes.length + uptoBulk d + 1
  | (_, d) => uptoBulk d + 1
 end
def uptoSmall : (H : Type) → List (DataW H) → Bool := fun _ ds => decide (uptoBulkAll ds ≤ 1048576)
def OpenSpec.upto (s : _root_.Go.ChangeSpec) : _root_.Go.OpenSpec := { _root_.Go.OpenSpec.ofChange s with cond := some uptoSmall }

/-- 'midrangelaw12.PointerUnforged', WHERE WHAT IT READS IS OF BULK AT MOST 1048576: true; the input reads as it did. -/
def pointerUnforgedUptoRow : OpenClaim := { program := "ytbhgehhmjpipiaagreatdoor", sum := "449490e1f9fb2236385316860564adaf8b58d1c09217091a12e824a22f5026d9", func := "midrange/midrangelaw12.PointerUnforged", spec := "pointerUnforged", inPlace := ["internal/bytealg.abigen_runtime_cmpstring", "internal/abi.NoEscape", "internal/bytealg.MakeNoZero"], unfollowed := true, recurses := true, named := ["midrange/pointer.uses"], apart := false, laid := [("midrange/pointer.uses", laid_midrange_pointer_uses)], narrowed := true }
def PointerUnforgedUptoSaid : Prop := pointerUnforgedUptoRow.holds Tryz.pinned (OpenSpec.upto pointerUnforgedSpec)

/-- 'midrangelaw12.PointerComplete', WHERE WHAT IT READS IS OF BULK AT MOST 1048576: true; the input reads as it did. -/
def pointerCompleteUptoRow : OpenClaim := { program := "ytbhgehhmjpipiaagreatdoor", sum := "449490e1f9fb2236385316860564adaf8b58d1c09217091a12e824a22f5026d9", func := "midrange/midrangelaw12.PointerComplete", spec := "pointerComplete", inPlace := ["internal/bytealg.abigen_runtime_cmpstring", "internal/abi.NoEscape", "internal/bytealg.MakeNoZero"], unfollowed := true, recurses := true, named := ["midrange/pointer.uses"], apart := false, laid := [("midrange/pointer.uses", laid_midrange_pointer_uses)], narrowed := true }
def PointerCompleteUptoSaid : Prop := pointerCompleteUptoRow.holds Tryz.pinned (OpenSpec.upto pointerCompleteSpec)

/-- 'midrangelaw12.PointerSteps', WHERE WHAT IT READS IS OF BULK AT MOST 1048576: true; the input reads as it did. -/
def pointerStepsUptoRow : OpenClaim := { program := "ytbhgehhmjpipiaagreatdoor", sum := "449490e1f9fb2236385316860564adaf8b58d1c09217091a12e824a22f5026d9", func := "midrange/midrangelaw12.PointerSteps", spec := "pointerSteps", inPlace := ["internal/bytealg.abigen_runtime_cmpstring"], unfollowed := true, recurses := true, named := ["midrange/pointer.uses"], apart := false, laid := [("midrange/pointer.uses", laid_midrange_pointer_uses)], narrowed := true }
def PointerStepsUptoSaid : Prop := pointerStepsUptoRow.holds Tryz.pinned (OpenSpec.upto pointerStepsSpec)

/-- 'midrangelaw12.PointerDestroys', WHERE WHAT IT READS IS OF BULK AT MOST 1048576: true; the input reads as it did. -/
def pointerDestroysUptoRow : OpenClaim := { program := "ytbhgehhmjpipiaagreatdoor", sum := "449490e1f9fb2236385316860564adaf8b58d1c09217091a12e824a22f5026d9", func := "midrange/midrangelaw12.PointerDestroys", spec := "pointerDestroys", inPlace := ["internal/bytealg.abigen_runtime_cmpstring"], unfollowed := true, recurses := true, named := ["midrange/pointer.uses"], apart := false, laid := [("midrange/pointer.uses", laid_midrange_pointer_uses)], narrowed := true }
def PointerDestroysUptoSaid : Prop := pointerDestroysUptoRow.holds Tryz.pinned (OpenSpec.upto pointerDestroysSpec)

/-- 'midrangelaw12.PointerRuns', WHERE WHAT IT READS IS OF BULK AT MOST 1048576: true; the input reads as it did. -/
def pointerRunsUptoRow : OpenClaim := { program := "ytbhgehhmjpipiaagreatdoor", sum := "449490e1f9fb2236385316860564adaf8b58d1c09217091a12e824a22f5026d9", func := "midrange/midrangelaw12.PointerRuns", spec := "pointerRuns", inPlace := ["internal/bytealg.abigen_runtime_cmpstring", "internal/abi.NoEscape", "internal/bytealg.MakeNoZero"], unfollowed := true, recurses := true, named := ["midrange/pointer.uses"], apart := false, laid := [("midrange/pointer.uses", laid_midrange_pointer_uses)], narrowed := true }
def PointerRunsUptoSaid : Prop := pointerRunsUptoRow.holds Tryz.pinned (OpenSpec.upto pointerRunsSpec)

end Rows
end Go.Proofs.YtbhgehhmjpipiaaGreatDoor
