/-
  No cell of these rows narrows 'for every input' (looked for: loops, veiled, ifaces, maps, wideKeys, modest, calm, conditions, laid).
  DERIVED. THE GIVEN ROWS OF THIS SEAT. 7 by the template 'for every input the law returns true; each argument reads behind the call as it read before'; 0 by the template 'total and deterministic' (their statements: YtppjmigiogddpaaTotals.lean).
  GIVEN WITH THE SEED: the statements are not yours to turn. If you find one false, say at which input.
  Laid BY PROGRAM, IN A SANDBOX (cutbox-rows.mjs): the forced cells as the released guide's own fill.sh prints them over the translation d27e9f760b22207d… (all of the seat's roots in one cut). By AI agents, Wed Nov 11 2026. No macro, syntax, notation, axiom, sorry.
-/
import Derived.Test.YtppjmigiogddpaaChecked
import GoSem.Claim
import GoSem.ClaimJoined
import GoSem.ClaimMapViews
import Derived.JoinedTies
import Derived.KernelRfl
namespace Go.Proofs.Ytppjmigiogddpaa
/- THE CELL 'sum', in the pinned program and in every row, IS THE sha256 OF THE DUMP (.gsa) THAT YtppjmigiogddpaaProg.lean LOADS. Nothing in Lean hashes anything: it is a label: what it is worth is what the hold of that sum in a sandbox is worth. -/
noncomputable def Try.pinned : Pinned := { name := "ytppjmigiogddpaa", sum := "d27e9f760b22207d07f20a0f412b11a656b6775992e499416e46fc35522e393f", checked := Try.checked }
namespace Rows
def none {H : Type} : Left H := { results := [], args := [] }

/-- 'midrangelaw09.LibraryNames': WHATEVER THE INPUT: true; the input reads as it did. -/
def libraryNamesSpec : ChangeSpec := { name := "libraryNames", fn := fun _ => fun
  | [d1, d2] => { results := [.lit (.bool true)], args := [d1, d2] }
  | _ => none }
def libraryNamesRow : OpenClaim := { program := "ytppjmigiogddpaa", sum := "d27e9f760b22207d07f20a0f412b11a656b6775992e499416e46fc35522e393f", func := "midrange/midrangelaw09.LibraryNames", spec := "libraryNames", inPlace := ["internal/bytealg.abigen_runtime_cmpstring", "internal/bytealg.IndexByteString", "internal/bytealg.IndexString"], unfollowed := true, recurses := true, named := ["internal/bytealg.MaxLen"], apart := false }
def LibraryNamesSaid : Prop := libraryNamesRow.holds Try.pinned (OpenSpec.ofChange libraryNamesSpec)

/-- ITS FALSE NEIGHBOUR: 'it returns false'. Refute it at one input. -/
def libraryNamesWrong : ChangeSpec := { name := "libraryNames", fn := fun _ => fun
  | [d1, d2] => { results := [.lit (.bool false)], args := [d1, d2] }
  | _ => none }
def LibraryNamesWrongFalsely : Prop := libraryNamesRow.holds Try.pinned (OpenSpec.ofChange libraryNamesWrong)

/-- 'midrangelaw09.LibraryLists': WHATEVER THE INPUT: true; the input reads as it did. -/
def libraryListsSpec : ChangeSpec := { name := "libraryLists", fn := fun _ => fun
  | [d1, d2, d3] => { results := [.lit (.bool true)], args := [d1, d2, d3] }
  | _ => none }
def libraryListsRow : OpenClaim := { program := "ytppjmigiogddpaa", sum := "d27e9f760b22207d07f20a0f412b11a656b6775992e499416e46fc35522e393f", func := "midrange/midrangelaw09.LibraryLists", spec := "libraryLists", inPlace := ["internal/bytealg.abigen_runtime_cmpstring", "internal/bytealg.IndexByteString", "internal/bytealg.IndexString"], unfollowed := true, recurses := true, named := ["internal/bytealg.MaxLen"], apart := false }
def LibraryListsSaid : Prop := libraryListsRow.holds Try.pinned (OpenSpec.ofChange libraryListsSpec)

/-- ITS FALSE NEIGHBOUR: 'it returns false'. Refute it at one input. -/
def libraryListsWrong : ChangeSpec := { name := "libraryLists", fn := fun _ => fun
  | [d1, d2, d3] => { results := [.lit (.bool false)], args := [d1, d2, d3] }
  | _ => none }
def LibraryListsWrongFalsely : Prop := libraryListsRow.holds Try.pinned (OpenSpec.ofChange libraryListsWrong)

/-- 'midrangelaw09.LibraryResolves': WHATEVER THE INPUT: true; the input reads as it did. -/
def libraryResolvesSpec : ChangeSpec := { name := "libraryResolves", fn := fun _ => fun
  | [d1, d2, d3] => { results := [.lit (.bool true)], args := [d1, d2, d3] }
  | _ => none }
def libraryResolvesRow : OpenClaim := { program := "ytppjmigiogddpaa", sum := "d27e9f760b22207d07f20a0f412b11a656b6775992e499416e46fc35522e393f", func := "midrange/midrangelaw09.LibraryResolves", spec := "libraryResolves", inPlace := ["internal/bytealg.abigen_runtime_cmpstring", "internal/bytealg.IndexByteString", "internal/bytealg.IndexString"], unfollowed := true, recurses := true, named := ["internal/bytealg.MaxLen"], apart := false }
def LibraryResolvesSaid : Prop := libraryResolvesRow.holds Try.pinned (OpenSpec.ofChange libraryResolvesSpec)

/-- ITS FALSE NEIGHBOUR: 'it returns false'. Refute it at one input. -/
def libraryResolvesWrong : ChangeSpec := { name := "libraryResolves", fn := fun _ => fun
  | [d1, d2, d3] => { results := [.lit (.bool false)], args := [d1, d2, d3] }
  | _ => none }
def LibraryResolvesWrongFalsely : Prop := libraryResolvesRow.holds Try.pinned (OpenSpec.ofChange libraryResolvesWrong)

/-- 'midrangelaw09.LibraryLeaves': WHATEVER THE INPUT: true; the input reads as it did. -/
def libraryLeavesSpec : ChangeSpec := { name := "libraryLeaves", fn := fun _ => fun
  | [d1, d2, d3] => { results := [.lit (.bool true)], args := [d1, d2, d3] }
  | _ => none }
def libraryLeavesRow : OpenClaim := { program := "ytppjmigiogddpaa", sum := "d27e9f760b22207d07f20a0f412b11a656b6775992e499416e46fc35522e393f", func := "midrange/midrangelaw09.LibraryLeaves", spec := "libraryLeaves", inPlace := ["internal/bytealg.abigen_runtime_cmpstring", "internal/bytealg.IndexByteString", "internal/bytealg.IndexString"], unfollowed := true, recurses := true, named := ["internal/bytealg.MaxLen"], apart := false }
def LibraryLeavesSaid : Prop := libraryLeavesRow.holds Try.pinned (OpenSpec.ofChange libraryLeavesSpec)

/-- ITS FALSE NEIGHBOUR: 'it returns false'. Refute it at one input. -/
def libraryLeavesWrong : ChangeSpec := { name := "libraryLeaves", fn := fun _ => fun
  | [d1, d2, d3] => { results := [.lit (.bool false)], args := [d1, d2, d3] }
  | _ => none }
def LibraryLeavesWrongFalsely : Prop := libraryLeavesRow.holds Try.pinned (OpenSpec.ofChange libraryLeavesWrong)

/-- 'midrangelaw09.LibraryMatches': WHATEVER THE INPUT: true; the input reads as it did. -/
def libraryMatchesSpec : ChangeSpec := { name := "libraryMatches", fn := fun _ => fun
  | [d1, d2, d3] => { results := [.lit (.bool true)], args := [d1, d2, d3] }
  | _ => none }
def libraryMatchesRow : OpenClaim := { program := "ytppjmigiogddpaa", sum := "d27e9f760b22207d07f20a0f412b11a656b6775992e499416e46fc35522e393f", func := "midrange/midrangelaw09.LibraryMatches", spec := "libraryMatches", inPlace := ["internal/bytealg.abigen_runtime_cmpstring", "internal/bytealg.IndexByteString", "internal/bytealg.IndexString"], unfollowed := true, recurses := true, named := ["internal/bytealg.MaxLen"], apart := false }
def LibraryMatchesSaid : Prop := libraryMatchesRow.holds Try.pinned (OpenSpec.ofChange libraryMatchesSpec)

/-- ITS FALSE NEIGHBOUR: 'it returns false'. Refute it at one input. -/
def libraryMatchesWrong : ChangeSpec := { name := "libraryMatches", fn := fun _ => fun
  | [d1, d2, d3] => { results := [.lit (.bool false)], args := [d1, d2, d3] }
  | _ => none }
def LibraryMatchesWrongFalsely : Prop := libraryMatchesRow.holds Try.pinned (OpenSpec.ofChange libraryMatchesWrong)

/-- 'midrangelaw09.LibraryFirst': WHATEVER THE INPUT: true; the input reads as it did. -/
def libraryFirstSpec : ChangeSpec := { name := "libraryFirst", fn := fun _ => fun
  | [d1, d2, d3] => { results := [.lit (.bool true)], args := [d1, d2, d3] }
  | _ => none }
def libraryFirstRow : OpenClaim := { program := "ytppjmigiogddpaa", sum := "d27e9f760b22207d07f20a0f412b11a656b6775992e499416e46fc35522e393f", func := "midrange/midrangelaw09.LibraryFirst", spec := "libraryFirst", inPlace := ["internal/bytealg.abigen_runtime_cmpstring", "internal/bytealg.IndexByteString", "internal/bytealg.IndexString"], unfollowed := true, recurses := true, named := ["internal/bytealg.MaxLen"], apart := false }
def LibraryFirstSaid : Prop := libraryFirstRow.holds Try.pinned (OpenSpec.ofChange libraryFirstSpec)

/-- ITS FALSE NEIGHBOUR: 'it returns false'. Refute it at one input. -/
def libraryFirstWrong : ChangeSpec := { name := "libraryFirst", fn := fun _ => fun
  | [d1, d2, d3] => { results := [.lit (.bool false)], args := [d1, d2, d3] }
  | _ => none }
def LibraryFirstWrongFalsely : Prop := libraryFirstRow.holds Try.pinned (OpenSpec.ofChange libraryFirstWrong)

/-- 'midrangelaw09.LibraryEntries': WHATEVER THE INPUT: true; the input reads as it did. -/
def libraryEntriesSpec : ChangeSpec := { name := "libraryEntries", fn := fun _ => fun
  | [d1, d2, d3] => { results := [.lit (.bool true)], args := [d1, d2, d3] }
  | _ => none }
def libraryEntriesRow : OpenClaim := { program := "ytppjmigiogddpaa", sum := "d27e9f760b22207d07f20a0f412b11a656b6775992e499416e46fc35522e393f", func := "midrange/midrangelaw09.LibraryEntries", spec := "libraryEntries", inPlace := ["internal/bytealg.abigen_runtime_cmpstring", "internal/bytealg.IndexByteString", "internal/bytealg.IndexString", "slices.overlaps[string]"], unfollowed := true, recurses := true, named := ["internal/bytealg.MaxLen"], apart := false }
def LibraryEntriesSaid : Prop := libraryEntriesRow.holds Try.pinned (OpenSpec.ofChange libraryEntriesSpec)

/-- ITS FALSE NEIGHBOUR: 'it returns false'. Refute it at one input. -/
def libraryEntriesWrong : ChangeSpec := { name := "libraryEntries", fn := fun _ => fun
  | [d1, d2, d3] => { results := [.lit (.bool false)], args := [d1, d2, d3] }
  | _ => none }
def LibraryEntriesWrongFalsely : Prop := libraryEntriesRow.holds Try.pinned (OpenSpec.ofChange libraryEntriesWrong)

/- THE SECOND FORM. 'bulk': how many values and letters a reading holds, each counted each time it is reached (what is shared counts as often as it is met; a slice's spare places count too). A statement '..UptoSaid' is the law's where the arguments, and the package variables that the reading takes, are together of bulk at most 1048576: NARROWER than '..Said'. Prove '..Said' where nothing that the law and all that it calls make is longer than what came in: it says more and counts as full. Else prove '..UptoSaid'. A law counts once. -/
mutual
def uptoBulk {H : Type} : DataW H → Nat
  | .lit (.string bytes) => bytes.length + 1
  | .lit _ => 1
  | .nil => 1
  | .ptr d => uptoBulk d + 1
  | .slice elems spare => uptoBulkAll elems + uptoBulkAll spare + 1
  | .agg parts => uptoBulkAll parts + 1
  | .iface _ d => uptoBulk d + 1
  | .map entries => uptoBulkEntries entries + 1
  | .held _ => 1
def uptoBulkAll {H : Type} : List (DataW H) → Nat
  | [] => 0
  | d :: r => uptoBulk d + uptoBulkAll r
def uptoBulkEntries {H : Type} : List (Lit × DataW H) → Nat
  | [] => 0
  | x :: r => uptoBulkEntry x + uptoBulkEntries r
def uptoBulkEntry {H : Type} : Lit × DataW H → Nat
  | (.string bytes, d) => bytes.length + uptoBulk d + 1
  | (_, d) => uptoBulk d + 1
 end
def uptoSmall : (H : Type) → List (DataW H) → Bool := fun _ ds => decide (uptoBulkAll ds ≤ 1048576)
def OpenSpec.upto (s : _root_.Go.ChangeSpec) : _root_.Go.OpenSpec := { _root_.Go.OpenSpec.ofChange s with cond := some uptoSmall }

/-- 'midrangelaw09.LibraryNames', WHERE WHAT IT READS IS OF BULK AT MOST 1048576: true; the input reads as it did. -/
def libraryNamesUptoRow : OpenClaim := { program := "ytppjmigiogddpaa", sum := "d27e9f760b22207d07f20a0f412b11a656b6775992e499416e46fc35522e393f", func := "midrange/midrangelaw09.LibraryNames", spec := "libraryNames", inPlace := ["internal/bytealg.abigen_runtime_cmpstring", "internal/bytealg.IndexByteString", "internal/bytealg.IndexString"], unfollowed := true, recurses := true, named := ["internal/bytealg.MaxLen"], apart := false, narrowed := true }
def LibraryNamesUptoSaid : Prop := libraryNamesUptoRow.holds Try.pinned (OpenSpec.upto libraryNamesSpec)

/-- 'midrangelaw09.LibraryLists', WHERE WHAT IT READS IS OF BULK AT MOST 1048576: true; the input reads as it did. -/
def libraryListsUptoRow : OpenClaim := { program := "ytppjmigiogddpaa", sum := "d27e9f760b22207d07f20a0f412b11a656b6775992e499416e46fc35522e393f", func := "midrange/midrangelaw09.LibraryLists", spec := "libraryLists", inPlace := ["internal/bytealg.abigen_runtime_cmpstring", "internal/bytealg.IndexByteString", "internal/bytealg.IndexString"], unfollowed := true, recurses := true, named := ["internal/bytealg.MaxLen"], apart := false, narrowed := true }
def LibraryListsUptoSaid : Prop := libraryListsUptoRow.holds Try.pinned (OpenSpec.upto libraryListsSpec)

/-- 'midrangelaw09.LibraryResolves', WHERE WHAT IT READS IS OF BULK AT MOST 1048576: true; the input reads as it did. -/
def libraryResolvesUptoRow : OpenClaim := { program := "ytppjmigiogddpaa", sum := "d27e9f760b22207d07f20a0f412b11a656b6775992e499416e46fc35522e393f", func := "midrange/midrangelaw09.LibraryResolves", spec := "libraryResolves", inPlace := ["internal/bytealg.abigen_runtime_cmpstring", "internal/bytealg.IndexByteString", "internal/bytealg.IndexString"], unfollowed := true, recurses := true, named := ["internal/bytealg.MaxLen"], apart := false, narrowed := true }
def LibraryResolvesUptoSaid : Prop := libraryResolvesUptoRow.holds Try.pinned (OpenSpec.upto libraryResolvesSpec)

/-- 'midrangelaw09.LibraryLeaves', WHERE WHAT IT READS IS OF BULK AT MOST 1048576: true; the input reads as it did. -/
def libraryLeavesUptoRow : OpenClaim := { program := "ytppjmigiogddpaa", sum := "d27e9f760b22207d07f20a0f412b11a656b6775992e499416e46fc35522e393f", func := "midrange/midrangelaw09.LibraryLeaves", spec := "libraryLeaves", inPlace := ["internal/bytealg.abigen_runtime_cmpstring", "internal/bytealg.IndexByteString", "internal/bytealg.IndexString"], unfollowed := true, recurses := true, named := ["internal/bytealg.MaxLen"], apart := false, narrowed := true }
def LibraryLeavesUptoSaid : Prop := libraryLeavesUptoRow.holds Try.pinned (OpenSpec.upto libraryLeavesSpec)

/-- 'midrangelaw09.LibraryMatches', WHERE WHAT IT READS IS OF BULK AT MOST 1048576: true; the input reads as it did. -/
def libraryMatchesUptoRow : OpenClaim := { program := "ytppjmigiogddpaa", sum := "d27e9f760b22207d07f20a0f412b11a656b6775992e499416e46fc35522e393f", func := "midrange/midrangelaw09.LibraryMatches", spec := "libraryMatches", inPlace := ["internal/bytealg.abigen_runtime_cmpstring", "internal/bytealg.IndexByteString", "internal/bytealg.IndexString"], unfollowed := true, recurses := true, named := ["internal/bytealg.MaxLen"], apart := false, narrowed := true }
def LibraryMatchesUptoSaid : Prop := libraryMatchesUptoRow.holds Try.pinned (OpenSpec.upto libraryMatchesSpec)

/-- 'midrangelaw09.LibraryFirst', WHERE WHAT IT READS IS OF BULK AT MOST 1048576: true; the input reads as it did. -/
def libraryFirstUptoRow : OpenClaim := { program := "ytppjmigiogddpaa", sum := "d27e9f760b22207d07f20a0f412b11a656b6775992e499416e46fc35522e393f", func := "midrange/midrangelaw09.LibraryFirst", spec := "libraryFirst", inPlace := ["internal/bytealg.abigen_runtime_cmpstring", "internal/bytealg.IndexByteString", "internal/bytealg.IndexString"], unfollowed := true, recurses := true, named := ["internal/bytealg.MaxLen"], apart := false, narrowed := true }
def LibraryFirstUptoSaid : Prop := libraryFirstUptoRow.holds Try.pinned (OpenSpec.upto libraryFirstSpec)

/-- 'midrangelaw09.LibraryEntries', WHERE WHAT IT READS IS OF BULK AT MOST 1048576: true; the input reads as it did. -/
def libraryEntriesUptoRow : OpenClaim := { program := "ytppjmigiogddpaa", sum := "d27e9f760b22207d07f20a0f412b11a656b6775992e499416e46fc35522e393f", func := "midrange/midrangelaw09.LibraryEntries", spec := "libraryEntries", inPlace := ["internal/bytealg.abigen_runtime_cmpstring", "internal/bytealg.IndexByteString", "internal/bytealg.IndexString", "slices.overlaps[string]"], unfollowed := true, recurses := true, named := ["internal/bytealg.MaxLen"], apart := false, narrowed := true }
def LibraryEntriesUptoSaid : Prop := libraryEntriesUptoRow.holds Try.pinned (OpenSpec.upto libraryEntriesSpec)

end Rows
end Go.Proofs.Ytppjmigiogddpaa
