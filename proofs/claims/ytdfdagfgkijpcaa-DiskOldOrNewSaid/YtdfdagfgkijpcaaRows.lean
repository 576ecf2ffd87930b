/-
  No cell of these rows narrows 'for every input' (looked for: loops, veiled, ifaces, maps, wideKeys, modest, calm, conditions, laid).
  DERIVED. THE GIVEN ROWS OF THIS SEAT. 5 by the template 'for every input the law returns true; each argument reads behind the call as it read before'; 0 by the template 'total and deterministic' (their statements: YtdfdagfgkijpcaaTotals.lean).
  GIVEN WITH THE SEED: the statements are not yours to turn. If you find one false, say at which input.
  Laid BY PROGRAM, IN A SANDBOX (cutbox-rows.mjs): the forced cells as the released guide's own fill.sh prints them over the translation d45b25868295baef… (all of the seat's roots in one cut). By AI agents, Wed Nov 11 2026. No macro, syntax, notation, axiom, sorry.
-/
import Derived.Test.YtdfdagfgkijpcaaChecked
import GoSem.Claim
import GoSem.ClaimJoined
import GoSem.ClaimMapViews
import Derived.JoinedTies
import Derived.KernelRfl
namespace Go.Proofs.Ytdfdagfgkijpcaa
/- THE CELL 'sum', in the pinned program and in every row, IS THE sha256 OF THE DUMP (.gsa) THAT YtdfdagfgkijpcaaProg.lean LOADS. Nothing in Lean hashes anything: it is a label: what it is worth is what the hold of that sum in a sandbox is worth. -/
noncomputable def Try.pinned : Pinned := { name := "ytdfdagfgkijpcaa", sum := "d45b25868295baeffcaed59f354a961d000f19fcb0c464031ceb5a21a0484ded", checked := Try.checked }
namespace Rows
def none {H : Type} : Left H := { results := [], args := [] }

/-- 'midrangelaw06.DiskChecks': WHATEVER THE INPUT: true; the input reads as it did. -/
def diskChecksSpec : ChangeSpec := { name := "diskChecks", fn := fun _ => fun
  | [d] => { results := [.lit (.bool true)], args := [d] }
  | _ => none }
def diskChecksRow : OpenClaim := { program := "ytdfdagfgkijpcaa", sum := "d45b25868295baeffcaed59f354a961d000f19fcb0c464031ceb5a21a0484ded", func := "midrange/midrangelaw06.DiskChecks", spec := "diskChecks", inPlace := ["internal/abi.NoEscape", "internal/bytealg.MakeNoZero"], unfollowed := true, recurses := true, apart := false }
def DiskChecksSaid : Prop := diskChecksRow.holds Try.pinned (OpenSpec.ofChange diskChecksSpec)

/-- ITS FALSE NEIGHBOUR: 'it returns false'. Refute it at one input. -/
def diskChecksWrong : ChangeSpec := { name := "diskChecks", fn := fun _ => fun
  | [d] => { results := [.lit (.bool false)], args := [d] }
  | _ => none }
def DiskChecksWrongFalsely : Prop := diskChecksRow.holds Try.pinned (OpenSpec.ofChange diskChecksWrong)

/-- 'midrangelaw06.DiskKept': WHATEVER THE INPUT: true; the input reads as it did. -/
def diskKeptSpec : ChangeSpec := { name := "diskKept", fn := fun _ => fun
  | [d1, d2] => { results := [.lit (.bool true)], args := [d1, d2] }
  | _ => none }
def diskKeptRow : OpenClaim := { program := "ytdfdagfgkijpcaa", sum := "d45b25868295baeffcaed59f354a961d000f19fcb0c464031ceb5a21a0484ded", func := "midrange/midrangelaw06.DiskKept", spec := "diskKept", inPlace := ["internal/abi.NoEscape", "internal/bytealg.MakeNoZero"], unfollowed := true, recurses := true, apart := false }
def DiskKeptSaid : Prop := diskKeptRow.holds Try.pinned (OpenSpec.ofChange diskKeptSpec)

/-- ITS FALSE NEIGHBOUR: 'it returns false'. Refute it at one input. -/
def diskKeptWrong : ChangeSpec := { name := "diskKept", fn := fun _ => fun
  | [d1, d2] => { results := [.lit (.bool false)], args := [d1, d2] }
  | _ => none }
def DiskKeptWrongFalsely : Prop := diskKeptRow.holds Try.pinned (OpenSpec.ofChange diskKeptWrong)

/-- 'midrangelaw06.DiskHides': WHATEVER THE INPUT: true; the input reads as it did. -/
def diskHidesSpec : ChangeSpec := { name := "diskHides", fn := fun _ => fun
  | [d1, d2, d3] => { results := [.lit (.bool true)], args := [d1, d2, d3] }
  | _ => none }
def diskHidesRow : OpenClaim := { program := "ytdfdagfgkijpcaa", sum := "d45b25868295baeffcaed59f354a961d000f19fcb0c464031ceb5a21a0484ded", func := "midrange/midrangelaw06.DiskHides", spec := "diskHides", inPlace := ["internal/abi.NoEscape", "internal/bytealg.MakeNoZero"], unfollowed := true, recurses := true, apart := false }
def DiskHidesSaid : Prop := diskHidesRow.holds Try.pinned (OpenSpec.ofChange diskHidesSpec)

/-- ITS FALSE NEIGHBOUR: 'it returns false'. Refute it at one input. -/
def diskHidesWrong : ChangeSpec := { name := "diskHides", fn := fun _ => fun
  | [d1, d2, d3] => { results := [.lit (.bool false)], args := [d1, d2, d3] }
  | _ => none }
def DiskHidesWrongFalsely : Prop := diskHidesRow.holds Try.pinned (OpenSpec.ofChange diskHidesWrong)

/-- 'midrangelaw06.DiskRebuilds': WHATEVER THE INPUT: true; the input reads as it did. -/
def diskRebuildsSpec : ChangeSpec := { name := "diskRebuilds", fn := fun _ => fun
  | [d1, d2, d3] => { results := [.lit (.bool true)], args := [d1, d2, d3] }
  | _ => none }
def diskRebuildsRow : OpenClaim := { program := "ytdfdagfgkijpcaa", sum := "d45b25868295baeffcaed59f354a961d000f19fcb0c464031ceb5a21a0484ded", func := "midrange/midrangelaw06.DiskRebuilds", spec := "diskRebuilds", inPlace := ["internal/abi.NoEscape", "internal/bytealg.MakeNoZero"], unfollowed := true, recurses := true, apart := false }
def DiskRebuildsSaid : Prop := diskRebuildsRow.holds Try.pinned (OpenSpec.ofChange diskRebuildsSpec)

/-- ITS FALSE NEIGHBOUR: 'it returns false'. Refute it at one input. -/
def diskRebuildsWrong : ChangeSpec := { name := "diskRebuilds", fn := fun _ => fun
  | [d1, d2, d3] => { results := [.lit (.bool false)], args := [d1, d2, d3] }
  | _ => none }
def DiskRebuildsWrongFalsely : Prop := diskRebuildsRow.holds Try.pinned (OpenSpec.ofChange diskRebuildsWrong)

/-- 'midrangelaw06.DiskOldOrNew': WHATEVER THE INPUT: true; the input reads as it did. -/
def diskOldOrNewSpec : ChangeSpec := { name := "diskOldOrNew", fn := fun _ => fun
  | [d1, d2, d3] => { results := [.lit (.bool true)], args := [d1, d2, d3] }
  | _ => none }
def diskOldOrNewRow : OpenClaim := { program := "ytdfdagfgkijpcaa", sum := "d45b25868295baeffcaed59f354a961d000f19fcb0c464031ceb5a21a0484ded", func := "midrange/midrangelaw06.DiskOldOrNew", spec := "diskOldOrNew", inPlace := ["internal/abi.NoEscape", "internal/bytealg.MakeNoZero"], unfollowed := true, recurses := true, apart := false }
def DiskOldOrNewSaid : Prop := diskOldOrNewRow.holds Try.pinned (OpenSpec.ofChange diskOldOrNewSpec)

/-- ITS FALSE NEIGHBOUR: 'it returns false'. Refute it at one input. -/
def diskOldOrNewWrong : ChangeSpec := { name := "diskOldOrNew", fn := fun _ => fun
  | [d1, d2, d3] => { results := [.lit (.bool false)], args := [d1, d2, d3] }
  | _ => none }
def DiskOldOrNewWrongFalsely : Prop := diskOldOrNewRow.holds Try.pinned (OpenSpec.ofChange diskOldOrNewWrong)

/- THE SECOND FORM. 'bulk': how many values and letters a reading holds, each counted each time it is reached (what is shared counts as often as it is met; a slice's spare places count too). A statement '..UptoSaid' is the law's where the arguments, and the package variables that the reading takes, are together of bulk at most 1048576: NARROWER than '..Said'. Prove '..Said' where nothing that the law and all that it calls make is longer than what came in: it says more and counts as full. Else prove '..UptoSaid'. A law counts once. -/
mutual
def uptoBulk {H : Type} : DataW H → Nat
  | .lit (.string bytes) => bytes.length + 1
  | .lit _ => 1
  | .nil => 1
  | .ptr d => uptoBulk d + 1
  | .slice elems spare => uptoBulkAll elems + uptoBulkAll spare + 1
  | .agg parts => uptoBulkAll parts + 1
  | .iface _ d => uptoBulk d + 1
  | .map entries => uptoBulkEntries entries + 1
  | .held _ => 1
def uptoBulkAll {H : Type} : List (DataW H) → Nat
  | [] => 0
  | d :: r => uptoBulk d + uptoBulkAll r
def uptoBulkEntries {H : Type} : List (Lit × DataW H) → Nat
  | [] => 0
  | x :: r => uptoBulkEntry x + uptoBulkEntries r
def uptoBulkEntry {H : Type} : Lit × DataW H → Nat
  | (.string bytes, d) => bytes.length + uptoBulk d + 1
  | (_, d) => uptoBulk d + 1
 end
def uptoSmall : (H : Type) → List (DataW H) → Bool := fun _ ds => decide (uptoBulkAll ds ≤ 1048576)
def OpenSpec.upto (s : _root_.Go.ChangeSpec) : _root_.Go.OpenSpec := { _root_.Go.OpenSpec.ofChange s with cond := some uptoSmall }

/-- 'midrangelaw06.DiskChecks', WHERE WHAT IT READS IS OF BULK AT MOST 1048576: true; the input reads as it did. -/
def diskChecksUptoRow : OpenClaim := { program := "ytdfdagfgkijpcaa", sum := "d45b25868295baeffcaed59f354a961d000f19fcb0c464031ceb5a21a0484ded", func := "midrange/midrangelaw06.DiskChecks", spec := "diskChecks", inPlace := ["internal/abi.NoEscape", "internal/bytealg.MakeNoZero"], unfollowed := true, recurses := true, apart := false, narrowed := true }
def DiskChecksUptoSaid : Prop := diskChecksUptoRow.holds Try.pinned (OpenSpec.upto diskChecksSpec)

/-- 'midrangelaw06.DiskKept', WHERE WHAT IT READS IS OF BULK AT MOST 1048576: true; the input reads as it did. -/
def diskKeptUptoRow : OpenClaim := { program := "ytdfdagfgkijpcaa", sum := "d45b25868295baeffcaed59f354a961d000f19fcb0c464031ceb5a21a0484ded", func := "midrange/midrangelaw06.DiskKept", spec := "diskKept", inPlace := ["internal/abi.NoEscape", "internal/bytealg.MakeNoZero"], unfollowed := true, recurses := true, apart := false, narrowed := true }
def DiskKeptUptoSaid : Prop := diskKeptUptoRow.holds Try.pinned (OpenSpec.upto diskKeptSpec)

/-- 'midrangelaw06.DiskHides', WHERE WHAT IT READS IS OF BULK AT MOST 1048576: true; the input reads as it did. -/
def diskHidesUptoRow : OpenClaim := { program := "ytdfdagfgkijpcaa", sum := "d45b25868295baeffcaed59f354a961d000f19fcb0c464031ceb5a21a0484ded", func := "midrange/midrangelaw06.DiskHides", spec := "diskHides", inPlace := ["internal/abi.NoEscape", "internal/bytealg.MakeNoZero"], unfollowed := true, recurses := true, apart := false, narrowed := true }
def DiskHidesUptoSaid : Prop := diskHidesUptoRow.holds Try.pinned (OpenSpec.upto diskHidesSpec)

/-- 'midrangelaw06.DiskRebuilds', WHERE WHAT IT READS IS OF BULK AT MOST 1048576: true; the input reads as it did. -/
def diskRebuildsUptoRow : OpenClaim := { program := "ytdfdagfgkijpcaa", sum := "d45b25868295baeffcaed59f354a961d000f19fcb0c464031ceb5a21a0484ded", func := "midrange/midrangelaw06.DiskRebuilds", spec := "diskRebuilds", inPlace := ["internal/abi.NoEscape", "internal/bytealg.MakeNoZero"], unfollowed := true, recurses := true, apart := false, narrowed := true }
def DiskRebuildsUptoSaid : Prop := diskRebuildsUptoRow.holds Try.pinned (OpenSpec.upto diskRebuildsSpec)

/-- 'midrangelaw06.DiskOldOrNew', WHERE WHAT IT READS IS OF BULK AT MOST 1048576: true; the input reads as it did. -/
def diskOldOrNewUptoRow : OpenClaim := { program := "ytdfdagfgkijpcaa", sum := "d45b25868295baeffcaed59f354a961d000f19fcb0c464031ceb5a21a0484ded", func := "midrange/midrangelaw06.DiskOldOrNew", spec := "diskOldOrNew", inPlace := ["internal/abi.NoEscape", "internal/bytealg.MakeNoZero"], unfollowed := true, recurses := true, apart := false, narrowed := true }
def DiskOldOrNewUptoSaid : Prop := diskOldOrNewUptoRow.holds Try.pinned (OpenSpec.upto diskOldOrNewSpec)

end Rows
end Go.Proofs.Ytdfdagfgkijpcaa
