/-
  No cell of these rows narrows 'for every input' (looked for: loops, veiled, ifaces, maps, wideKeys, modest, calm, conditions, laid).
  DERIVED. THE GIVEN ROWS OF THIS SEAT. 4 by the template 'for every input the law returns true; each argument reads behind the call as it read before'; 0 by the template 'total and deterministic' (their statements: YtppjmigiogddpaaGreatTotals.lean).
  GIVEN WITH THE SEED: the statements are not yours to turn. If you find one false, say at which input.
  Laid BY PROGRAM, IN A SANDBOX (cutbox-rows.mjs): the forced cells as the released guide's own fill.sh prints them over the translation da57dadb94ffe692… (all of the seat's roots in one cut). By AI agents, Wed Nov 11 2026. No macro, syntax, notation, axiom, sorry.
-/
import Derived.Test.YtppjmigiogddpaaGreatChecked
import GoSem.Claim
import GoSem.ClaimJoined
import GoSem.ClaimMapViews
import Derived.JoinedTies
import Derived.KernelRfl
namespace Go.Proofs.YtppjmigiogddpaaGreat
/- THE CELL 'sum', in the pinned program and in every row, IS THE sha256 OF THE DUMP (.gsa) THAT YtppjmigiogddpaaGreatProg.lean LOADS. Nothing in Lean hashes anything: it is a label: what it is worth is what the hold of that sum in a sandbox is worth. -/
noncomputable def Tryz.pinned : Pinned := { name := "ytppjmigiogddpaagreat", sum := "da57dadb94ffe692c722973cedf076fdc7b659ce2803098108b61ba4dd12700e", checked := Tryz.checked }
namespace Rows
def none {H : Type} : Left H := { results := [], args := [] }

/-- 'midrangelaw09.LibraryMoves': WHATEVER THE INPUT: true; the input reads as it did. -/
def libraryMovesSpec : ChangeSpec := { name := "libraryMoves", fn := fun _ => fun
  | [d1, d2, d3] => { results := [.lit (.bool true)], args := [d1, d2, d3] }
  | _ => none }
def libraryMovesRow : OpenClaim := { program := "ytppjmigiogddpaagreat", sum := "da57dadb94ffe692c722973cedf076fdc7b659ce2803098108b61ba4dd12700e", func := "midrange/midrangelaw09.LibraryMoves", spec := "libraryMoves", inPlace := ["internal/bytealg.abigen_runtime_cmpstring", "internal/bytealg.IndexByteString", "internal/bytealg.IndexString"], unfollowed := true, recurses := true, named := ["internal/bytealg.MaxLen"], apart := false }
def LibraryMovesSaid : Prop := libraryMovesRow.holds Tryz.pinned (OpenSpec.ofChange libraryMovesSpec)

/-- ITS FALSE NEIGHBOUR: 'it returns false'. Refute it at one input. -/
def libraryMovesWrong : ChangeSpec := { name := "libraryMoves", fn := fun _ => fun
  | [d1, d2, d3] => { results := [.lit (.bool false)], args := [d1, d2, d3] }
  | _ => none }
def LibraryMovesWrongFalsely : Prop := libraryMovesRow.holds Tryz.pinned (OpenSpec.ofChange libraryMovesWrong)

/-- 'midrangelaw09.LibraryCopies': WHATEVER THE INPUT: true; the input reads as it did. -/
def libraryCopiesSpec : ChangeSpec := { name := "libraryCopies", fn := fun _ => fun
  | [d1, d2, d3] => { results := [.lit (.bool true)], args := [d1, d2, d3] }
  | _ => none }
def libraryCopiesRow : OpenClaim := { program := "ytppjmigiogddpaagreat", sum := "da57dadb94ffe692c722973cedf076fdc7b659ce2803098108b61ba4dd12700e", func := "midrange/midrangelaw09.LibraryCopies", spec := "libraryCopies", inPlace := ["internal/bytealg.abigen_runtime_cmpstring", "internal/bytealg.IndexByteString", "internal/bytealg.IndexString"], unfollowed := true, recurses := true, named := ["internal/bytealg.MaxLen"], apart := false }
def LibraryCopiesSaid : Prop := libraryCopiesRow.holds Tryz.pinned (OpenSpec.ofChange libraryCopiesSpec)

/-- ITS FALSE NEIGHBOUR: 'it returns false'. Refute it at one input. -/
def libraryCopiesWrong : ChangeSpec := { name := "libraryCopies", fn := fun _ => fun
  | [d1, d2, d3] => { results := [.lit (.bool false)], args := [d1, d2, d3] }
  | _ => none }
def LibraryCopiesWrongFalsely : Prop := libraryCopiesRow.holds Tryz.pinned (OpenSpec.ofChange libraryCopiesWrong)

/-- 'midrangelaw09.LibraryOnce': WHATEVER THE INPUT: true; the input reads as it did. -/
def libraryOnceSpec : ChangeSpec := { name := "libraryOnce", fn := fun _ => fun
  | [d1, d2, d3] => { results := [.lit (.bool true)], args := [d1, d2, d3] }
  | _ => none }
def libraryOnceRow : OpenClaim := { program := "ytppjmigiogddpaagreat", sum := "da57dadb94ffe692c722973cedf076fdc7b659ce2803098108b61ba4dd12700e", func := "midrange/midrangelaw09.LibraryOnce", spec := "libraryOnce", inPlace := ["internal/bytealg.abigen_runtime_cmpstring", "internal/bytealg.IndexByteString", "internal/bytealg.IndexString"], unfollowed := true, recurses := true, named := ["internal/bytealg.MaxLen"], apart := false }
def LibraryOnceSaid : Prop := libraryOnceRow.holds Tryz.pinned (OpenSpec.ofChange libraryOnceSpec)

/-- ITS FALSE NEIGHBOUR: 'it returns false'. Refute it at one input. -/
def libraryOnceWrong : ChangeSpec := { name := "libraryOnce", fn := fun _ => fun
  | [d1, d2, d3] => { results := [.lit (.bool false)], args := [d1, d2, d3] }
  | _ => none }
def LibraryOnceWrongFalsely : Prop := libraryOnceRow.holds Tryz.pinned (OpenSpec.ofChange libraryOnceWrong)

/-- 'midrangelaw09.LibraryBack': WHATEVER THE INPUT: true; the input reads as it did. -/
def libraryBackSpec : ChangeSpec := { name := "libraryBack", fn := fun _ => fun
  | [d1, d2, d3] => { results := [.lit (.bool true)], args := [d1, d2, d3] }
  | _ => none }
def libraryBackRow : OpenClaim := { program := "ytppjmigiogddpaagreat", sum := "da57dadb94ffe692c722973cedf076fdc7b659ce2803098108b61ba4dd12700e", func := "midrange/midrangelaw09.LibraryBack", spec := "libraryBack", inPlace := ["internal/bytealg.abigen_runtime_cmpstring", "internal/bytealg.IndexByteString", "internal/bytealg.IndexString", "slices.overlaps[string]"], unfollowed := true, recurses := true, named := ["internal/bytealg.MaxLen"], apart := false }
def LibraryBackSaid : Prop := libraryBackRow.holds Tryz.pinned (OpenSpec.ofChange libraryBackSpec)

/-- ITS FALSE NEIGHBOUR: 'it returns false'. Refute it at one input. -/
def libraryBackWrong : ChangeSpec := { name := "libraryBack", fn := fun _ => fun
  | [d1, d2, d3] => { results := [.lit (.bool false)], args := [d1, d2, d3] }
  | _ => none }
def LibraryBackWrongFalsely : Prop := libraryBackRow.holds Tryz.pinned (OpenSpec.ofChange libraryBackWrong)

/- THE SECOND FORM. 'bulk': how many values and letters a reading holds, each counted each time it is reached (what is shared counts as often as it is met; a slice's spare places count too). A statement '..UptoSaid' is the law's where the arguments, and the package variables that the reading takes, are together of bulk at most 1048576: NARROWER than '..Said'. Prove '..Said' where nothing that the law and all that it calls make is longer than what came in: it says more and counts as full. Else prove '..UptoSaid'. A law counts once. -/
mutual
def uptoBulk {H : Type} : DataW H → Nat
  | .lit (.string bytes) => bytes.length + 1
  | .lit _ => 1
  | .nil => 1
  | .ptr d => uptoBulk d + 1
  | .slice elems spare => uptoBulkAll elems + uptoBulkAll spare + 1
  | .agg parts => uptoBulkAll parts + 1
  | .iface _ d => uptoBulk d + 1
  | .map entries => uptoBulkEntries entries + 1
  | .held _ => 1
def uptoBulkAll {H : Type} : List (DataW H) → Nat
  | [] => 0
  | d :: r => uptoBulk d + uptoBulkAll r
def uptoBulkEntries {H : Type} : List (Lit × DataW H) → Nat
  | [] => 0
  | x :: r => uptoBulkEntry x + uptoBulkEntries r
def uptoBulkEntry {H : Type} : Lit × DataW H → Nat
  | (.string bytes, d) => bytes.length + uptoBulk d + 1
  | (_, d) => uptoBulk d + 1
 end
def uptoSmall : (H : Type) → List (DataW H) → Bool := fun _ ds => decide (uptoBulkAll ds ≤ 1048576)
def OpenSpec.upto (s : _root_.Go.ChangeSpec) : _root_.Go.OpenSpec := { _root_.Go.OpenSpec.ofChange s with cond := some uptoSmall }

/-- 'midrangelaw09.LibraryMoves', WHERE WHAT IT READS IS OF BULK AT MOST 1048576: true; the input reads as it did. -/
def libraryMovesUptoRow : OpenClaim := { program := "ytppjmigiogddpaagreat", sum := "da57dadb94ffe692c722973cedf076fdc7b659ce2803098108b61ba4dd12700e", func := "midrange/midrangelaw09.LibraryMoves", spec := "libraryMoves", inPlace := ["internal/bytealg.abigen_runtime_cmpstring", "internal/bytealg.IndexByteString", "internal/bytealg.IndexString"], unfollowed := true, recurses := true, named := ["internal/bytealg.MaxLen"], apart := false, narrowed := true }
def LibraryMovesUptoSaid : Prop := libraryMovesUptoRow.holds Tryz.pinned (OpenSpec.upto libraryMovesSpec)

/-- 'midrangelaw09.LibraryCopies', WHERE WHAT IT READS IS OF BULK AT MOST 1048576: true; the input reads as it did. -/
def libraryCopiesUptoRow : OpenClaim := { program := "ytppjmigiogddpaagreat", sum := "da57dadb94ffe692c722973cedf076fdc7b659ce2803098108b61ba4dd12700e", func := "midrange/midrangelaw09.LibraryCopies", spec := "libraryCopies", inPlace := ["internal/bytealg.abigen_runtime_cmpstring", "internal/bytealg.IndexByteString", "internal/bytealg.IndexString"], unfollowed := true, recurses := true, named := ["internal/bytealg.MaxLen"], apart := false, narrowed := true }
def LibraryCopiesUptoSaid : Prop := libraryCopiesUptoRow.holds Tryz.pinned (OpenSpec.upto libraryCopiesSpec)

/-- 'midrangelaw09.LibraryOnce', WHERE WHAT IT READS IS OF BULK AT MOST 1048576: true; the input reads as it did. -/
def libraryOnceUptoRow : OpenClaim := { program := "ytppjmigiogddpaagreat", sum := "da57dadb94ffe692c722973cedf076fdc7b659ce2803098108b61ba4dd12700e", func := "midrange/midrangelaw09.LibraryOnce", spec := "libraryOnce", inPlace := ["internal/bytealg.abigen_runtime_cmpstring", "internal/bytealg.IndexByteString", "internal/bytealg.IndexString"], unfollowed := true, recurses := true, named := ["internal/bytealg.MaxLen"], apart := false, narrowed := true }
def LibraryOnceUptoSaid : Prop := libraryOnceUptoRow.holds Tryz.pinned (OpenSpec.upto libraryOnceSpec)

/-- 'midrangelaw09.LibraryBack', WHERE WHAT IT READS IS OF BULK AT MOST 1048576: true; the input reads as it did. -/
def libraryBackUptoRow : OpenClaim := { program := "ytppjmigiogddpaagreat", sum := "da57dadb94ffe692c722973cedf076fdc7b659ce2803098108b61ba4dd12700e", func := "midrange/midrangelaw09.LibraryBack", spec := "libraryBack", inPlace := ["internal/bytealg.abigen_runtime_cmpstring", "internal/bytealg.IndexByteString", "internal/bytealg.IndexString", "slices.overlaps[string]"], unfollowed := true, recurses := true, named := ["internal/bytealg.MaxLen"], apart := false, narrowed := true }
def LibraryBackUptoSaid : Prop := libraryBackUptoRow.holds Tryz.pinned (OpenSpec.upto libraryBackSpec)

end Rows
end Go.Proofs.YtppjmigiogddpaaGreat
