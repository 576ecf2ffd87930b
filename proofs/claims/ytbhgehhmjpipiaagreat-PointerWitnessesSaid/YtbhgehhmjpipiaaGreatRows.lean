/-
  No cell of these rows narrows 'for every input' (looked for: loops, veiled, ifaces, maps, wideKeys, modest, calm, conditions, laid).
  DERIVED. THE GIVEN ROWS OF THIS SEAT. 7 by the template 'for every input the law returns true; each argument reads behind the call as it read before'; 0 by the template 'total and deterministic' (their statements: YtbhgehhmjpipiaaGreatTotals.lean).
  GIVEN WITH THE SEED: the statements are not yours to turn. If you find one false, say at which input.
  Laid BY PROGRAM, IN A SANDBOX (cutbox-rows.mjs): the forced cells as the released guide's own fill.sh prints them over the translation 41be18b30c12bb9c… (all of the seat's roots in one cut). By AI agents, Wed Nov 11 2026. No macro, syntax, notation, axiom, sorry.
-/
import Derived.Test.YtbhgehhmjpipiaaGreatChecked
import GoSem.Claim
import GoSem.ClaimJoined
import GoSem.ClaimMapViews
import Derived.JoinedTies
import Derived.KernelRfl
namespace Go.Proofs.YtbhgehhmjpipiaaGreat
/- THE CELL 'sum', in the pinned program and in every row, IS THE sha256 OF THE DUMP (.gsa) THAT YtbhgehhmjpipiaaGreatProg.lean LOADS. Nothing in Lean hashes anything: it is a label: what it is worth is what the hold of that sum in a sandbox is worth. -/
noncomputable def Tryz.pinned : Pinned := { name := "ytbhgehhmjpipiaagreat", sum := "41be18b30c12bb9ce6402687ae2ce7680c0106d9f0e685efd9a91aadfc2ec1fa", checked := Tryz.checked }
namespace Rows
def none {H : Type} : Left H := { results := [], args := [] }

/-- 'midrangelaw12.PointerClosure': WHATEVER THE INPUT: true; the input reads as it did. -/
def pointerClosureSpec : ChangeSpec := { name := "pointerClosure", fn := fun _ => fun
  | [d] => { results := [.lit (.bool true)], args := [d] }
  | _ => none }
def pointerClosureRow : OpenClaim := { program := "ytbhgehhmjpipiaagreat", sum := "41be18b30c12bb9ce6402687ae2ce7680c0106d9f0e685efd9a91aadfc2ec1fa", func := "midrange/midrangelaw12.PointerClosure", spec := "pointerClosure", inPlace := ["internal/bytealg.abigen_runtime_cmpstring"], unfollowed := true, recurses := true, apart := false }
def PointerClosureSaid : Prop := pointerClosureRow.holds Tryz.pinned (OpenSpec.ofChange pointerClosureSpec)

/-- ITS FALSE NEIGHBOUR: 'it returns false'. Refute it at one input. -/
def pointerClosureWrong : ChangeSpec := { name := "pointerClosure", fn := fun _ => fun
  | [d] => { results := [.lit (.bool false)], args := [d] }
  | _ => none }
def PointerClosureWrongFalsely : Prop := pointerClosureRow.holds Tryz.pinned (OpenSpec.ofChange pointerClosureWrong)

/-- 'midrangelaw12.PointerWitnesses': WHATEVER THE INPUT: true; the input reads as it did. -/
def pointerWitnessesSpec : ChangeSpec := { name := "pointerWitnesses", fn := fun _ => fun
  | [d1, d2] => { results := [.lit (.bool true)], args := [d1, d2] }
  | _ => none }
def pointerWitnessesRow : OpenClaim := { program := "ytbhgehhmjpipiaagreat", sum := "41be18b30c12bb9ce6402687ae2ce7680c0106d9f0e685efd9a91aadfc2ec1fa", func := "midrange/midrangelaw12.PointerWitnesses", spec := "pointerWitnesses", inPlace := ["internal/bytealg.abigen_runtime_cmpstring"], unfollowed := true, recurses := true, apart := false }
def PointerWitnessesSaid : Prop := pointerWitnessesRow.holds Tryz.pinned (OpenSpec.ofChange pointerWitnessesSpec)

/-- ITS FALSE NEIGHBOUR: 'it returns false'. Refute it at one input. -/
def pointerWitnessesWrong : ChangeSpec := { name := "pointerWitnesses", fn := fun _ => fun
  | [d1, d2] => { results := [.lit (.bool false)], args := [d1, d2] }
  | _ => none }
def PointerWitnessesWrongFalsely : Prop := pointerWitnessesRow.holds Tryz.pinned (OpenSpec.ofChange pointerWitnessesWrong)

/-- 'midrangelaw12.PointerDerives': WHATEVER THE INPUT: true; the input reads as it did. -/
def pointerDerivesSpec : ChangeSpec := { name := "pointerDerives", fn := fun _ => fun
  | [d] => { results := [.lit (.bool true)], args := [d] }
  | _ => none }
def pointerDerivesRow : OpenClaim := { program := "ytbhgehhmjpipiaagreat", sum := "41be18b30c12bb9ce6402687ae2ce7680c0106d9f0e685efd9a91aadfc2ec1fa", func := "midrange/midrangelaw12.PointerDerives", spec := "pointerDerives", inPlace := ["internal/bytealg.abigen_runtime_cmpstring"], unfollowed := true, recurses := true, apart := false }
def PointerDerivesSaid : Prop := pointerDerivesRow.holds Tryz.pinned (OpenSpec.ofChange pointerDerivesSpec)

/-- ITS FALSE NEIGHBOUR: 'it returns false'. Refute it at one input. -/
def pointerDerivesWrong : ChangeSpec := { name := "pointerDerives", fn := fun _ => fun
  | [d] => { results := [.lit (.bool false)], args := [d] }
  | _ => none }
def PointerDerivesWrongFalsely : Prop := pointerDerivesRow.holds Tryz.pinned (OpenSpec.ofChange pointerDerivesWrong)

/-- 'midrangelaw12.PointerProofs': WHATEVER THE INPUT: true; the input reads as it did. -/
def pointerProofsSpec : ChangeSpec := { name := "pointerProofs", fn := fun _ => fun
  | [d1, d2] => { results := [.lit (.bool true)], args := [d1, d2] }
  | _ => none }
def pointerProofsRow : OpenClaim := { program := "ytbhgehhmjpipiaagreat", sum := "41be18b30c12bb9ce6402687ae2ce7680c0106d9f0e685efd9a91aadfc2ec1fa", func := "midrange/midrangelaw12.PointerProofs", spec := "pointerProofs", inPlace := ["internal/bytealg.abigen_runtime_cmpstring"], unfollowed := true, recurses := true, apart := false }
def PointerProofsSaid : Prop := pointerProofsRow.holds Tryz.pinned (OpenSpec.ofChange pointerProofsSpec)

/-- ITS FALSE NEIGHBOUR: 'it returns false'. Refute it at one input. -/
def pointerProofsWrong : ChangeSpec := { name := "pointerProofs", fn := fun _ => fun
  | [d1, d2] => { results := [.lit (.bool false)], args := [d1, d2] }
  | _ => none }
def PointerProofsWrongFalsely : Prop := pointerProofsRow.holds Tryz.pinned (OpenSpec.ofChange pointerProofsWrong)

/-- 'midrangelaw12.PointerStates': WHATEVER THE INPUT: true; the input reads as it did. -/
def pointerStatesSpec : ChangeSpec := { name := "pointerStates", fn := fun _ => fun
  | [d1, d2] => { results := [.lit (.bool true)], args := [d1, d2] }
  | _ => none }
def pointerStatesRow : OpenClaim := { program := "ytbhgehhmjpipiaagreat", sum := "41be18b30c12bb9ce6402687ae2ce7680c0106d9f0e685efd9a91aadfc2ec1fa", func := "midrange/midrangelaw12.PointerStates", spec := "pointerStates", inPlace := ["internal/bytealg.abigen_runtime_cmpstring"], unfollowed := true, recurses := true, apart := false }
def PointerStatesSaid : Prop := pointerStatesRow.holds Tryz.pinned (OpenSpec.ofChange pointerStatesSpec)

/-- ITS FALSE NEIGHBOUR: 'it returns false'. Refute it at one input. -/
def pointerStatesWrong : ChangeSpec := { name := "pointerStates", fn := fun _ => fun
  | [d1, d2] => { results := [.lit (.bool false)], args := [d1, d2] }
  | _ => none }
def PointerStatesWrongFalsely : Prop := pointerStatesRow.holds Tryz.pinned (OpenSpec.ofChange pointerStatesWrong)

/-- 'midrangelaw12.PointerHeld': WHATEVER THE INPUT: true; the input reads as it did. -/
def pointerHeldSpec : ChangeSpec := { name := "pointerHeld", fn := fun _ => fun
  | [d1, d2] => { results := [.lit (.bool true)], args := [d1, d2] }
  | _ => none }
def pointerHeldRow : OpenClaim := { program := "ytbhgehhmjpipiaagreat", sum := "41be18b30c12bb9ce6402687ae2ce7680c0106d9f0e685efd9a91aadfc2ec1fa", func := "midrange/midrangelaw12.PointerHeld", spec := "pointerHeld", inPlace := ["internal/bytealg.abigen_runtime_cmpstring"], unfollowed := true, recurses := true, apart := false }
def PointerHeldSaid : Prop := pointerHeldRow.holds Tryz.pinned (OpenSpec.ofChange pointerHeldSpec)

/-- ITS FALSE NEIGHBOUR: 'it returns false'. Refute it at one input. -/
def pointerHeldWrong : ChangeSpec := { name := "pointerHeld", fn := fun _ => fun
  | [d1, d2] => { results := [.lit (.bool false)], args := [d1, d2] }
  | _ => none }
def PointerHeldWrongFalsely : Prop := pointerHeldRow.holds Tryz.pinned (OpenSpec.ofChange pointerHeldWrong)

/-- 'midrangelaw12.PointerCases': WHATEVER THE INPUT: true; the input reads as it did. -/
def pointerCasesSpec : ChangeSpec := { name := "pointerCases", fn := fun _ => fun
  | [d] => { results := [.lit (.bool true)], args := [d] }
  | _ => none }
def pointerCasesRow : OpenClaim := { program := "ytbhgehhmjpipiaagreat", sum := "41be18b30c12bb9ce6402687ae2ce7680c0106d9f0e685efd9a91aadfc2ec1fa", func := "midrange/midrangelaw12.PointerCases", spec := "pointerCases", inPlace := ["internal/bytealg.abigen_runtime_cmpstring", "internal/abi.NoEscape", "internal/bytealg.MakeNoZero"], unfollowed := true, recurses := true, apart := false }
def PointerCasesSaid : Prop := pointerCasesRow.holds Tryz.pinned (OpenSpec.ofChange pointerCasesSpec)

/-- ITS FALSE NEIGHBOUR: 'it returns false'. Refute it at one input. -/
def pointerCasesWrong : ChangeSpec := { name := "pointerCases", fn := fun _ => fun
  | [d] => { results := [.lit (.bool false)], args := [d] }
  | _ => none }
def PointerCasesWrongFalsely : Prop := pointerCasesRow.holds Tryz.pinned (OpenSpec.ofChange pointerCasesWrong)

/- THE SECOND FORM. 'bulk': how many values and letters a reading holds, each counted each time it is reached (what is shared counts as often as it is met; a slice's spare places count too). A statement '..UptoSaid' is the law's where the arguments, and the package variables that the reading takes, are together of bulk at most 1048576: NARROWER than '..Said'. Prove '..Said' where nothing that the law and all that it calls make is longer than what came in: it says more and counts as full. Else prove '..UptoSaid'. A law counts once. -/
mutual
def uptoBulk {H : Type} : DataW H → Nat
  | .lit (.string bytes) => bytes.length + 1
  | .lit _ => 1
  | .nil => 1
  | .ptr d => uptoBulk d + 1
  | .slice elems spare => uptoBulkAll elems + uptoBulkAll spare + 1
  | .agg parts => uptoBulkAll parts + 1
  | .iface _ d => uptoBulk d + 1
  | .map entries => uptoBulkEntries entries + 1
  | .held _ => 1
def uptoBulkAll {H : Type} : List (DataW H) → Nat
  | [] => 0
  | d :: r => uptoBulk d + uptoBulkAll r
def uptoBulkEntries {H : Type} : List (Lit × DataW H) → Nat
  | [] => 0
  | x :: r => uptoBulkEntry x + uptoBulkEntries r
def uptoBulkEntry {H : Type} : Lit × DataW H → Nat
  | (.string bytes, d) => bytes.length + uptoBulk d + 1
  | (_, d) => uptoBulk d + 1
 end
def uptoSmall : (H : Type) → List (DataW H) → Bool := fun _ ds => decide (uptoBulkAll ds ≤ 1048576)
def OpenSpec.upto (s : _root_.Go.ChangeSpec) : _root_.Go.OpenSpec := { _root_.Go.OpenSpec.ofChange s with cond := some uptoSmall }

/-- 'midrangelaw12.PointerClosure', WHERE WHAT IT READS IS OF BULK AT MOST 1048576: true; the input reads as it did. -/
def pointerClosureUptoRow : OpenClaim := { program := "ytbhgehhmjpipiaagreat", sum := "41be18b30c12bb9ce6402687ae2ce7680c0106d9f0e685efd9a91aadfc2ec1fa", func := "midrange/midrangelaw12.PointerClosure", spec := "pointerClosure", inPlace := ["internal/bytealg.abigen_runtime_cmpstring"], unfollowed := true, recurses := true, apart := false, narrowed := true }
def PointerClosureUptoSaid : Prop := pointerClosureUptoRow.holds Tryz.pinned (OpenSpec.upto pointerClosureSpec)

/-- 'midrangelaw12.PointerWitnesses', WHERE WHAT IT READS IS OF BULK AT MOST 1048576: true; the input reads as it did. -/
def pointerWitnessesUptoRow : OpenClaim := { program := "ytbhgehhmjpipiaagreat", sum := "41be18b30c12bb9ce6402687ae2ce7680c0106d9f0e685efd9a91aadfc2ec1fa", func := "midrange/midrangelaw12.PointerWitnesses", spec := "pointerWitnesses", inPlace := ["internal/bytealg.abigen_runtime_cmpstring"], unfollowed := true, recurses := true, apart := false, narrowed := true }
def PointerWitnessesUptoSaid : Prop := pointerWitnessesUptoRow.holds Tryz.pinned (OpenSpec.upto pointerWitnessesSpec)

/-- 'midrangelaw12.PointerDerives', WHERE WHAT IT READS IS OF BULK AT MOST 1048576: true; the input reads as it did. -/
def pointerDerivesUptoRow : OpenClaim := { program := "ytbhgehhmjpipiaagreat", sum := "41be18b30c12bb9ce6402687ae2ce7680c0106d9f0e685efd9a91aadfc2ec1fa", func := "midrange/midrangelaw12.PointerDerives", spec := "pointerDerives", inPlace := ["internal/bytealg.abigen_runtime_cmpstring"], unfollowed := true, recurses := true, apart := false, narrowed := true }
def PointerDerivesUptoSaid : Prop := pointerDerivesUptoRow.holds Tryz.pinned (OpenSpec.upto pointerDerivesSpec)

/-- 'midrangelaw12.PointerProofs', WHERE WHAT IT READS IS OF BULK AT MOST 1048576: true; the input reads as it did. -/
def pointerProofsUptoRow : OpenClaim := { program := "ytbhgehhmjpipiaagreat", sum := "41be18b30c12bb9ce6402687ae2ce7680c0106d9f0e685efd9a91aadfc2ec1fa", func := "midrange/midrangelaw12.PointerProofs", spec := "pointerProofs", inPlace := ["internal/bytealg.abigen_runtime_cmpstring"], unfollowed := true, recurses := true, apart := false, narrowed := true }
def PointerProofsUptoSaid : Prop := pointerProofsUptoRow.holds Tryz.pinned (OpenSpec.upto pointerProofsSpec)

/-- 'midrangelaw12.PointerStates', WHERE WHAT IT READS IS OF BULK AT MOST 1048576: true; the input reads as it did. -/
def pointerStatesUptoRow : OpenClaim := { program := "ytbhgehhmjpipiaagreat", sum := "41be18b30c12bb9ce6402687ae2ce7680c0106d9f0e685efd9a91aadfc2ec1fa", func := "midrange/midrangelaw12.PointerStates", spec := "pointerStates", inPlace := ["internal/bytealg.abigen_runtime_cmpstring"], unfollowed := true, recurses := true, apart := false, narrowed := true }
def PointerStatesUptoSaid : Prop := pointerStatesUptoRow.holds Tryz.pinned (OpenSpec.upto pointerStatesSpec)

/-- 'midrangelaw12.PointerHeld', WHERE WHAT IT READS IS OF BULK AT MOST 1048576: true; the input reads as it did. -/
def pointerHeldUptoRow : OpenClaim := { program := "ytbhgehhmjpipiaagreat", sum := "41be18b30c12bb9ce6402687ae2ce7680c0106d9f0e685efd9a91aadfc2ec1fa", func := "midrange/midrangelaw12.PointerHeld", spec := "pointerHeld", inPlace := ["internal/bytealg.abigen_runtime_cmpstring"], unfollowed := true, recurses := true, apart := false, narrowed := true }
def PointerHeldUptoSaid : Prop := pointerHeldUptoRow.holds Tryz.pinned (OpenSpec.upto pointerHeldSpec)

/-- 'midrangelaw12.PointerCases', WHERE WHAT IT READS IS OF BULK AT MOST 1048576: true; the input reads as it did. -/
def pointerCasesUptoRow : OpenClaim := { program := "ytbhgehhmjpipiaagreat", sum := "41be18b30c12bb9ce6402687ae2ce7680c0106d9f0e685efd9a91aadfc2ec1fa", func := "midrange/midrangelaw12.PointerCases", spec := "pointerCases", inPlace := ["internal/bytealg.abigen_runtime_cmpstring", "internal/abi.NoEscape", "internal/bytealg.MakeNoZero"], unfollowed := true, recurses := true, apart := false, narrowed := true }
def PointerCasesUptoSaid : Prop := pointerCasesUptoRow.holds Tryz.pinned (OpenSpec.upto pointerCasesSpec)

end Rows
end Go.Proofs.YtbhgehhmjpipiaaGreat
