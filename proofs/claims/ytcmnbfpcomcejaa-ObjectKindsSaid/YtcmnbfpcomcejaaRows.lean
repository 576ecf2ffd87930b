/-
  No cell of these rows narrows 'for every input' (looked for: loops, veiled, ifaces, maps, wideKeys, modest, calm, conditions, laid).
  DERIVED. THE GIVEN ROWS OF THIS SEAT. 11 by the template 'for every input the law returns true; each argument reads behind the call as it read before'; 0 by the template 'total and deterministic' (their statements: YtcmnbfpcomcejaaTotals.lean).
  GIVEN WITH THE SEED: the statements are not yours to turn. If you find one false, say at which input.
  Laid BY PROGRAM, IN A SANDBOX (cutbox-rows.mjs): the forced cells as the released guide's own fill.sh prints them over the translation 46ffdd6bdb1eefcf… (all of the seat's roots in one cut). By AI agents, Wed Nov 11 2026. No macro, syntax, notation, axiom, sorry.
-/
import Derived.Test.YtcmnbfpcomcejaaChecked
import GoSem.Claim
import GoSem.ClaimJoined
import GoSem.ClaimMapViews
import Derived.JoinedTies
import Derived.KernelRfl
namespace Go.Proofs.Ytcmnbfpcomcejaa
/- THE CELL 'sum', in the pinned program and in every row, IS THE sha256 OF THE DUMP (.gsa) THAT YtcmnbfpcomcejaaProg.lean LOADS. Nothing in Lean hashes anything: it is a label: what it is worth is what the hold of that sum in a sandbox is worth. -/
noncomputable def Try.pinned : Pinned := { name := "ytcmnbfpcomcejaa", sum := "46ffdd6bdb1eefcf3051cb0dcd0e10b8382311b22bd1c39dc35ff87a834b7e83", checked := Try.checked }
namespace Rows
def none {H : Type} : Left H := { results := [], args := [] }

/-- 'midrangelaw08.ObjectNames': WHATEVER THE INPUT: true; the input reads as it did. -/
def objectNamesSpec : ChangeSpec := { name := "objectNames", fn := fun _ => fun
  | [d1, d2] => { results := [.lit (.bool true)], args := [d1, d2] }
  | _ => none }
def objectNamesRow : OpenClaim := { program := "ytcmnbfpcomcejaa", sum := "46ffdd6bdb1eefcf3051cb0dcd0e10b8382311b22bd1c39dc35ff87a834b7e83", func := "midrange/midrangelaw08.ObjectNames", spec := "objectNames", inPlace := ["internal/bytealg.abigen_runtime_cmpstring"], unfollowed := true, recurses := true, apart := false }
def ObjectNamesSaid : Prop := objectNamesRow.holds Try.pinned (OpenSpec.ofChange objectNamesSpec)

/-- ITS FALSE NEIGHBOUR: 'it returns false'. Refute it at one input. -/
def objectNamesWrong : ChangeSpec := { name := "objectNames", fn := fun _ => fun
  | [d1, d2] => { results := [.lit (.bool false)], args := [d1, d2] }
  | _ => none }
def ObjectNamesWrongFalsely : Prop := objectNamesRow.holds Try.pinned (OpenSpec.ofChange objectNamesWrong)

/-- 'midrangelaw08.ObjectDirectories': WHATEVER THE INPUT: true; the input reads as it did. -/
def objectDirectoriesSpec : ChangeSpec := { name := "objectDirectories", fn := fun _ => fun
  | [d] => { results := [.lit (.bool true)], args := [d] }
  | _ => none }
def objectDirectoriesRow : OpenClaim := { program := "ytcmnbfpcomcejaa", sum := "46ffdd6bdb1eefcf3051cb0dcd0e10b8382311b22bd1c39dc35ff87a834b7e83", func := "midrange/midrangelaw08.ObjectDirectories", spec := "objectDirectories", inPlace := ["internal/bytealg.abigen_runtime_cmpstring"], unfollowed := true, recurses := true, apart := false }
def ObjectDirectoriesSaid : Prop := objectDirectoriesRow.holds Try.pinned (OpenSpec.ofChange objectDirectoriesSpec)

/-- ITS FALSE NEIGHBOUR: 'it returns false'. Refute it at one input. -/
def objectDirectoriesWrong : ChangeSpec := { name := "objectDirectories", fn := fun _ => fun
  | [d] => { results := [.lit (.bool false)], args := [d] }
  | _ => none }
def ObjectDirectoriesWrongFalsely : Prop := objectDirectoriesRow.holds Try.pinned (OpenSpec.ofChange objectDirectoriesWrong)

/-- 'midrangelaw08.ObjectCreates': WHATEVER THE INPUT: true; the input reads as it did. -/
def objectCreatesSpec : ChangeSpec := { name := "objectCreates", fn := fun _ => fun
  | [d1, d2, d3] => { results := [.lit (.bool true)], args := [d1, d2, d3] }
  | _ => none }
def objectCreatesRow : OpenClaim := { program := "ytcmnbfpcomcejaa", sum := "46ffdd6bdb1eefcf3051cb0dcd0e10b8382311b22bd1c39dc35ff87a834b7e83", func := "midrange/midrangelaw08.ObjectCreates", spec := "objectCreates", inPlace := ["internal/bytealg.abigen_runtime_cmpstring"], unfollowed := true, recurses := true, apart := false }
def ObjectCreatesSaid : Prop := objectCreatesRow.holds Try.pinned (OpenSpec.ofChange objectCreatesSpec)

/-- ITS FALSE NEIGHBOUR: 'it returns false'. Refute it at one input. -/
def objectCreatesWrong : ChangeSpec := { name := "objectCreates", fn := fun _ => fun
  | [d1, d2, d3] => { results := [.lit (.bool false)], args := [d1, d2, d3] }
  | _ => none }
def ObjectCreatesWrongFalsely : Prop := objectCreatesRow.holds Try.pinned (OpenSpec.ofChange objectCreatesWrong)

/-- 'midrangelaw08.ObjectFinds': WHATEVER THE INPUT: true; the input reads as it did. -/
def objectFindsSpec : ChangeSpec := { name := "objectFinds", fn := fun _ => fun
  | [d1, d2, d3] => { results := [.lit (.bool true)], args := [d1, d2, d3] }
  | _ => none }
def objectFindsRow : OpenClaim := { program := "ytcmnbfpcomcejaa", sum := "46ffdd6bdb1eefcf3051cb0dcd0e10b8382311b22bd1c39dc35ff87a834b7e83", func := "midrange/midrangelaw08.ObjectFinds", spec := "objectFinds", inPlace := ["internal/bytealg.abigen_runtime_cmpstring"], unfollowed := true, recurses := true, apart := false }
def ObjectFindsSaid : Prop := objectFindsRow.holds Try.pinned (OpenSpec.ofChange objectFindsSpec)

/-- ITS FALSE NEIGHBOUR: 'it returns false'. Refute it at one input. -/
def objectFindsWrong : ChangeSpec := { name := "objectFinds", fn := fun _ => fun
  | [d1, d2, d3] => { results := [.lit (.bool false)], args := [d1, d2, d3] }
  | _ => none }
def ObjectFindsWrongFalsely : Prop := objectFindsRow.holds Try.pinned (OpenSpec.ofChange objectFindsWrong)

/-- 'midrangelaw08.ObjectKinds': WHATEVER THE INPUT: true; the input reads as it did. -/
def objectKindsSpec : ChangeSpec := { name := "objectKinds", fn := fun _ => fun
  | [d1, d2] => { results := [.lit (.bool true)], args := [d1, d2] }
  | _ => none }
def objectKindsRow : OpenClaim := { program := "ytcmnbfpcomcejaa", sum := "46ffdd6bdb1eefcf3051cb0dcd0e10b8382311b22bd1c39dc35ff87a834b7e83", func := "midrange/midrangelaw08.ObjectKinds", spec := "objectKinds", inPlace := ["internal/bytealg.abigen_runtime_cmpstring", "internal/bytealg.IndexByteString"], unfollowed := true, recurses := true, apart := false }
def ObjectKindsSaid : Prop := objectKindsRow.holds Try.pinned (OpenSpec.ofChange objectKindsSpec)

/-- ITS FALSE NEIGHBOUR: 'it returns false'. Refute it at one input. -/
def objectKindsWrong : ChangeSpec := { name := "objectKinds", fn := fun _ => fun
  | [d1, d2] => { results := [.lit (.bool false)], args := [d1, d2] }
  | _ => none }
def ObjectKindsWrongFalsely : Prop := objectKindsRow.holds Try.pinned (OpenSpec.ofChange objectKindsWrong)

/-- 'midrangelaw08.ObjectRenames': WHATEVER THE INPUT: true; the input reads as it did. -/
def objectRenamesSpec : ChangeSpec := { name := "objectRenames", fn := fun _ => fun
  | [d1, d2, d3] => { results := [.lit (.bool true)], args := [d1, d2, d3] }
  | _ => none }
def objectRenamesRow : OpenClaim := { program := "ytcmnbfpcomcejaa", sum := "46ffdd6bdb1eefcf3051cb0dcd0e10b8382311b22bd1c39dc35ff87a834b7e83", func := "midrange/midrangelaw08.ObjectRenames", spec := "objectRenames", inPlace := ["internal/bytealg.abigen_runtime_cmpstring", "internal/bytealg.IndexByteString"], unfollowed := true, recurses := true, apart := false }
def ObjectRenamesSaid : Prop := objectRenamesRow.holds Try.pinned (OpenSpec.ofChange objectRenamesSpec)

/-- ITS FALSE NEIGHBOUR: 'it returns false'. Refute it at one input. -/
def objectRenamesWrong : ChangeSpec := { name := "objectRenames", fn := fun _ => fun
  | [d1, d2, d3] => { results := [.lit (.bool false)], args := [d1, d2, d3] }
  | _ => none }
def ObjectRenamesWrongFalsely : Prop := objectRenamesRow.holds Try.pinned (OpenSpec.ofChange objectRenamesWrong)

/-- 'midrangelaw08.ObjectChanges': WHATEVER THE INPUT: true; the input reads as it did. -/
def objectChangesSpec : ChangeSpec := { name := "objectChanges", fn := fun _ => fun
  | [d1, d2, d3] => { results := [.lit (.bool true)], args := [d1, d2, d3] }
  | _ => none }
def objectChangesRow : OpenClaim := { program := "ytcmnbfpcomcejaa", sum := "46ffdd6bdb1eefcf3051cb0dcd0e10b8382311b22bd1c39dc35ff87a834b7e83", func := "midrange/midrangelaw08.ObjectChanges", spec := "objectChanges", inPlace := ["internal/bytealg.abigen_runtime_cmpstring", "internal/bytealg.IndexByteString"], unfollowed := true, recurses := true, apart := false }
def ObjectChangesSaid : Prop := objectChangesRow.holds Try.pinned (OpenSpec.ofChange objectChangesSpec)

/-- ITS FALSE NEIGHBOUR: 'it returns false'. Refute it at one input. -/
def objectChangesWrong : ChangeSpec := { name := "objectChanges", fn := fun _ => fun
  | [d1, d2, d3] => { results := [.lit (.bool false)], args := [d1, d2, d3] }
  | _ => none }
def ObjectChangesWrongFalsely : Prop := objectChangesRow.holds Try.pinned (OpenSpec.ofChange objectChangesWrong)

/-- 'midrangelaw08.ObjectActions': WHATEVER THE INPUT: true; the input reads as it did. -/
def objectActionsSpec : ChangeSpec := { name := "objectActions", fn := fun _ => fun
  | [d1, d2] => { results := [.lit (.bool true)], args := [d1, d2] }
  | _ => none }
def objectActionsRow : OpenClaim := { program := "ytcmnbfpcomcejaa", sum := "46ffdd6bdb1eefcf3051cb0dcd0e10b8382311b22bd1c39dc35ff87a834b7e83", func := "midrange/midrangelaw08.ObjectActions", spec := "objectActions", inPlace := ["internal/bytealg.abigen_runtime_cmpstring", "internal/bytealg.IndexByteString"], unfollowed := true, recurses := true, apart := false }
def ObjectActionsSaid : Prop := objectActionsRow.holds Try.pinned (OpenSpec.ofChange objectActionsSpec)

/-- ITS FALSE NEIGHBOUR: 'it returns false'. Refute it at one input. -/
def objectActionsWrong : ChangeSpec := { name := "objectActions", fn := fun _ => fun
  | [d1, d2] => { results := [.lit (.bool false)], args := [d1, d2] }
  | _ => none }
def ObjectActionsWrongFalsely : Prop := objectActionsRow.holds Try.pinned (OpenSpec.ofChange objectActionsWrong)

/-- 'midrangelaw08.ObjectValid': WHATEVER THE INPUT: true; the input reads as it did. -/
def objectValidSpec : ChangeSpec := { name := "objectValid", fn := fun _ => fun
  | [d1, d2] => { results := [.lit (.bool true)], args := [d1, d2] }
  | _ => none }
def objectValidRow : OpenClaim := { program := "ytcmnbfpcomcejaa", sum := "46ffdd6bdb1eefcf3051cb0dcd0e10b8382311b22bd1c39dc35ff87a834b7e83", func := "midrange/midrangelaw08.ObjectValid", spec := "objectValid", inPlace := ["internal/bytealg.abigen_runtime_cmpstring", "internal/bytealg.IndexByteString"], unfollowed := true, recurses := true, apart := false }
def ObjectValidSaid : Prop := objectValidRow.holds Try.pinned (OpenSpec.ofChange objectValidSpec)

/-- ITS FALSE NEIGHBOUR: 'it returns false'. Refute it at one input. -/
def objectValidWrong : ChangeSpec := { name := "objectValid", fn := fun _ => fun
  | [d1, d2] => { results := [.lit (.bool false)], args := [d1, d2] }
  | _ => none }
def ObjectValidWrongFalsely : Prop := objectValidRow.holds Try.pinned (OpenSpec.ofChange objectValidWrong)

/-- 'midrangelaw08.ObjectSegments': WHATEVER THE INPUT: true; the input reads as it did. -/
def objectSegmentsSpec : ChangeSpec := { name := "objectSegments", fn := fun _ => fun
  | [d1, d2, d3] => { results := [.lit (.bool true)], args := [d1, d2, d3] }
  | _ => none }
def objectSegmentsRow : OpenClaim := { program := "ytcmnbfpcomcejaa", sum := "46ffdd6bdb1eefcf3051cb0dcd0e10b8382311b22bd1c39dc35ff87a834b7e83", func := "midrange/midrangelaw08.ObjectSegments", spec := "objectSegments", inPlace := ["internal/bytealg.abigen_runtime_cmpstring", "internal/bytealg.IndexByteString"], unfollowed := true, recurses := true, apart := false }
def ObjectSegmentsSaid : Prop := objectSegmentsRow.holds Try.pinned (OpenSpec.ofChange objectSegmentsSpec)

/-- ITS FALSE NEIGHBOUR: 'it returns false'. Refute it at one input. -/
def objectSegmentsWrong : ChangeSpec := { name := "objectSegments", fn := fun _ => fun
  | [d1, d2, d3] => { results := [.lit (.bool false)], args := [d1, d2, d3] }
  | _ => none }
def ObjectSegmentsWrongFalsely : Prop := objectSegmentsRow.holds Try.pinned (OpenSpec.ofChange objectSegmentsWrong)

/-- 'midrangelaw08.ObjectSealed': WHATEVER THE INPUT: true; the input reads as it did. -/
def objectSealedSpec : ChangeSpec := { name := "objectSealed", fn := fun _ => fun
  | [d1, d2] => { results := [.lit (.bool true)], args := [d1, d2] }
  | _ => none }
def objectSealedRow : OpenClaim := { program := "ytcmnbfpcomcejaa", sum := "46ffdd6bdb1eefcf3051cb0dcd0e10b8382311b22bd1c39dc35ff87a834b7e83", func := "midrange/midrangelaw08.ObjectSealed", spec := "objectSealed", inPlace := ["internal/bytealg.abigen_runtime_cmpstring", "internal/bytealg.IndexByteString"], unfollowed := true, recurses := true, apart := false }
def ObjectSealedSaid : Prop := objectSealedRow.holds Try.pinned (OpenSpec.ofChange objectSealedSpec)

/-- ITS FALSE NEIGHBOUR: 'it returns false'. Refute it at one input. -/
def objectSealedWrong : ChangeSpec := { name := "objectSealed", fn := fun _ => fun
  | [d1, d2] => { results := [.lit (.bool false)], args := [d1, d2] }
  | _ => none }
def ObjectSealedWrongFalsely : Prop := objectSealedRow.holds Try.pinned (OpenSpec.ofChange objectSealedWrong)

/- THE SECOND FORM. 'bulk': how many values and letters a reading holds, each counted each time it is reached (what is shared counts as often as it is met; a slice's spare places count too). A statement '..UptoSaid' is the law's where the arguments, and the package variables that the reading takes, are together of bulk at most 1048576: NARROWER than '..Said'. Prove '..Said' where nothing that the law and all that it calls make is longer than what came in: it says more and counts as full. Else prove '..UptoSaid'. A law counts once. -/
mutual
def uptoBulk {H : Type} : DataW H → Nat
  | .lit (.string bytes) => bytes.length + 1
  | .lit _ => 1
  | .nil => 1
  | .ptr d => uptoBulk d + 1
  | .slice elems spare => uptoBulkAll elems + uptoBulkAll spare + 1
  | .agg parts => uptoBulkAll parts + 1
  | .iface _ d => uptoBulk d + 1
  | .map entries => uptoBulkEntries entries + 1
  | .held _ => 1
def uptoBulkAll {H : Type} : List (DataW H) → Nat
  | [] => 0
  | d :: r => uptoBulk d + uptoBulkAll r
def uptoBulkEntries {H : Type} : List (Lit × DataW H) → Nat
  | [] => 0
  | x :: r => uptoBulkEntry x + uptoBulkEntries r
def uptoBulkEntry {H : Type} : Lit × DataW H → Nat
  | (.string bytes, d) => bytes.length + uptoBulk d + 1
  | (_, d) => uptoBulk d + 1
 end
def uptoSmall : (H : Type) → List (DataW H) → Bool := fun _ ds => decide (uptoBulkAll ds ≤ 1048576)
def OpenSpec.upto (s : _root_.Go.ChangeSpec) : _root_.Go.OpenSpec := { _root_.Go.OpenSpec.ofChange s with cond := some uptoSmall }

/-- 'midrangelaw08.ObjectNames', WHERE WHAT IT READS IS OF BULK AT MOST 1048576: true; the input reads as it did. -/
def objectNamesUptoRow : OpenClaim := { program := "ytcmnbfpcomcejaa", sum := "46ffdd6bdb1eefcf3051cb0dcd0e10b8382311b22bd1c39dc35ff87a834b7e83", func := "midrange/midrangelaw08.ObjectNames", spec := "objectNames", inPlace := ["internal/bytealg.abigen_runtime_cmpstring"], unfollowed := true, recurses := true, apart := false, narrowed := true }
def ObjectNamesUptoSaid : Prop := objectNamesUptoRow.holds Try.pinned (OpenSpec.upto objectNamesSpec)

/-- 'midrangelaw08.ObjectDirectories', WHERE WHAT IT READS IS OF BULK AT MOST 1048576: true; the input reads as it did. -/
def objectDirectoriesUptoRow : OpenClaim := { program := "ytcmnbfpcomcejaa", sum := "46ffdd6bdb1eefcf3051cb0dcd0e10b8382311b22bd1c39dc35ff87a834b7e83", func := "midrange/midrangelaw08.ObjectDirectories", spec := "objectDirectories", inPlace := ["internal/bytealg.abigen_runtime_cmpstring"], unfollowed := true, recurses := true, apart := false, narrowed := true }
def ObjectDirectoriesUptoSaid : Prop := objectDirectoriesUptoRow.holds Try.pinned (OpenSpec.upto objectDirectoriesSpec)

/-- 'midrangelaw08.ObjectCreates', WHERE WHAT IT READS IS OF BULK AT MOST 1048576: true; the input reads as it did. -/
def objectCreatesUptoRow : OpenClaim := { program := "ytcmnbfpcomcejaa", sum := "46ffdd6bdb1eefcf3051cb0dcd0e10b8382311b22bd1c39dc35ff87a834b7e83", func := "midrange/midrangelaw08.ObjectCreates", spec := "objectCreates", inPlace := ["internal/bytealg.abigen_runtime_cmpstring"], unfollowed := true, recurses := true, apart := false, narrowed := true }
def ObjectCreatesUptoSaid : Prop := objectCreatesUptoRow.holds Try.pinned (OpenSpec.upto objectCreatesSpec)

/-- 'midrangelaw08.ObjectFinds', WHERE WHAT IT READS IS OF BULK AT MOST 1048576: true; the input reads as it did. -/
def objectFindsUptoRow : OpenClaim := { program := "ytcmnbfpcomcejaa", sum := "46ffdd6bdb1eefcf3051cb0dcd0e10b8382311b22bd1c39dc35ff87a834b7e83", func := "midrange/midrangelaw08.ObjectFinds", spec := "objectFinds", inPlace := ["internal/bytealg.abigen_runtime_cmpstring"], unfollowed := true, recurses := true, apart := false, narrowed := true }
def ObjectFindsUptoSaid : Prop := objectFindsUptoRow.holds Try.pinned (OpenSpec.upto objectFindsSpec)

/-- 'midrangelaw08.ObjectKinds', WHERE WHAT IT READS IS OF BULK AT MOST 1048576: true; the input reads as it did. -/
def objectKindsUptoRow : OpenClaim := { program := "ytcmnbfpcomcejaa", sum := "46ffdd6bdb1eefcf3051cb0dcd0e10b8382311b22bd1c39dc35ff87a834b7e83", func := "midrange/midrangelaw08.ObjectKinds", spec := "objectKinds", inPlace := ["internal/bytealg.abigen_runtime_cmpstring", "internal/bytealg.IndexByteString"], unfollowed := true, recurses := true, apart := false, narrowed := true }
def ObjectKindsUptoSaid : Prop := objectKindsUptoRow.holds Try.pinned (OpenSpec.upto objectKindsSpec)

/-- 'midrangelaw08.ObjectRenames', WHERE WHAT IT READS IS OF BULK AT MOST 1048576: true; the input reads as it did. -/
def objectRenamesUptoRow : OpenClaim := { program := "ytcmnbfpcomcejaa", sum := "46ffdd6bdb1eefcf3051cb0dcd0e10b8382311b22bd1c39dc35ff87a834b7e83", func := "midrange/midrangelaw08.ObjectRenames", spec := "objectRenames", inPlace := ["internal/bytealg.abigen_runtime_cmpstring", "internal/bytealg.IndexByteString"], unfollowed := true, recurses := true, apart := false, narrowed := true }
def ObjectRenamesUptoSaid : Prop := objectRenamesUptoRow.holds Try.pinned (OpenSpec.upto objectRenamesSpec)

/-- 'midrangelaw08.ObjectChanges', WHERE WHAT IT READS IS OF BULK AT MOST 1048576: true; the input reads as it did. -/
def objectChangesUptoRow : OpenClaim := { program := "ytcmnbfpcomcejaa", sum := "46ffdd6bdb1eefcf3051cb0dcd0e10b8382311b22bd1c39dc35ff87a834b7e83", func := "midrange/midrangelaw08.ObjectChanges", spec := "objectChanges", inPlace := ["internal/bytealg.abigen_runtime_cmpstring", "internal/bytealg.IndexByteString"], unfollowed := true, recurses := true, apart := false, narrowed := true }
def ObjectChangesUptoSaid : Prop := objectChangesUptoRow.holds Try.pinned (OpenSpec.upto objectChangesSpec)

/-- 'midrangelaw08.ObjectActions', WHERE WHAT IT READS IS OF BULK AT MOST 1048576: true; the input reads as it did. -/
def objectActionsUptoRow : OpenClaim := { program := "ytcmnbfpcomcejaa", sum := "46ffdd6bdb1eefcf3051cb0dcd0e10b8382311b22bd1c39dc35ff87a834b7e83", func := "midrange/midrangelaw08.ObjectActions", spec := "objectActions", inPlace := ["internal/bytealg.abigen_runtime_cmpstring", "internal/bytealg.IndexByteString"], unfollowed := true, recurses := true, apart := false, narrowed := true }
def ObjectActionsUptoSaid : Prop := objectActionsUptoRow.holds Try.pinned (OpenSpec.upto objectActionsSpec)

/-- 'midrangelaw08.ObjectValid', WHERE WHAT IT READS IS OF BULK AT MOST 1048576: true; the input reads as it did. -/
def objectValidUptoRow : OpenClaim := { program := "ytcmnbfpcomcejaa", sum := "46ffdd6bdb1eefcf3051cb0dcd0e10b8382311b22bd1c39dc35ff87a834b7e83", func := "midrange/midrangelaw08.ObjectValid", spec := "objectValid", inPlace := ["internal/bytealg.abigen_runtime_cmpstring", "internal/bytealg.IndexByteString"], unfollowed := true, recurses := true, apart := false, narrowed := true }
def ObjectValidUptoSaid : Prop := objectValidUptoRow.holds Try.pinned (OpenSpec.upto objectValidSpec)

/-- 'midrangelaw08.ObjectSegments', WHERE WHAT IT READS IS OF BULK AT MOST 1048576: true; the input reads as it did. -/
def objectSegmentsUptoRow : OpenClaim := { program := "ytcmnbfpcomcejaa", sum := "46ffdd6bdb1eefcf3051cb0dcd0e10b8382311b22bd1c39dc35ff87a834b7e83", func := "midrange/midrangelaw08.ObjectSegments", spec := "objectSegments", inPlace := ["internal/bytealg.abigen_runtime_cmpstring", "internal/bytealg.IndexByteString"], unfollowed := true, recurses := true, apart := false, narrowed := true }
def ObjectSegmentsUptoSaid : Prop := objectSegmentsUptoRow.holds Try.pinned (OpenSpec.upto objectSegmentsSpec)

/-- 'midrangelaw08.ObjectSealed', WHERE WHAT IT READS IS OF BULK AT MOST 1048576: true; the input reads as it did. -/
def objectSealedUptoRow : OpenClaim := { program := "ytcmnbfpcomcejaa", sum := "46ffdd6bdb1eefcf3051cb0dcd0e10b8382311b22bd1c39dc35ff87a834b7e83", func := "midrange/midrangelaw08.ObjectSealed", spec := "objectSealed", inPlace := ["internal/bytealg.abigen_runtime_cmpstring", "internal/bytealg.IndexByteString"], unfollowed := true, recurses := true, apart := false, narrowed := true }
def ObjectSealedUptoSaid : Prop := objectSealedUptoRow.holds Try.pinned (OpenSpec.upto objectSealedSpec)

end Rows
end Go.Proofs.Ytcmnbfpcomcejaa
