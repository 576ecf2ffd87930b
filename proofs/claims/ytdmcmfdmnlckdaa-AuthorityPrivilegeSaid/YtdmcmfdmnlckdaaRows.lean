/-
  No cell of these rows narrows 'for every input' (looked for: loops, veiled, ifaces, maps, wideKeys, modest, calm, conditions, laid).
  DERIVED. THE GIVEN ROWS OF THIS SEAT. 12 by the template 'for every input the law returns true; each argument reads behind the call as it read before'; 0 by the template 'total and deterministic' (their statements: YtdmcmfdmnlckdaaTotals.lean).
  GIVEN WITH THE SEED: the statements are not yours to turn. If you find one false, say at which input.
  Laid BY PROGRAM, IN A SANDBOX (cutbox-rows.mjs): the forced cells as the released guide's own fill.sh prints them over the translation 5eb708108ac38cdf… (all of the seat's roots in one cut). By AI agents, Wed Nov 11 2026. No macro, syntax, notation, axiom, sorry.
-/
import Derived.Test.YtdmcmfdmnlckdaaChecked
import GoSem.Claim
import GoSem.ClaimJoined
import GoSem.ClaimMapViews
import Derived.JoinedTies
import Derived.KernelRfl
namespace Go.Proofs.Ytdmcmfdmnlckdaa
/- THE CELL 'sum', in the pinned program and in every row, IS THE sha256 OF THE DUMP (.gsa) THAT YtdmcmfdmnlckdaaProg.lean LOADS. Nothing in Lean hashes anything: it is a label: what it is worth is what the hold of that sum in a sandbox is worth. -/
noncomputable def Try.pinned : Pinned := { name := "ytdmcmfdmnlckdaa", sum := "5eb708108ac38cdf6d02109602c2b1da709921a3a6b17a80cd318a9832051b03", checked := Try.checked }
namespace Rows
def none {H : Type} : Left H := { results := [], args := [] }

/-- 'midrangelaw10.AuthorityChecks': WHATEVER THE INPUT: true; the input reads as it did. -/
def authorityChecksSpec : ChangeSpec := { name := "authorityChecks", fn := fun _ => fun
  | [d] => { results := [.lit (.bool true)], args := [d] }
  | _ => none }
def authorityChecksRow : OpenClaim := { program := "ytdmcmfdmnlckdaa", sum := "5eb708108ac38cdf6d02109602c2b1da709921a3a6b17a80cd318a9832051b03", func := "midrange/midrangelaw10.AuthorityChecks", spec := "authorityChecks", inPlace := ["internal/bytealg.abigen_runtime_cmpstring"], unfollowed := true, recurses := true, apart := false }
def AuthorityChecksSaid : Prop := authorityChecksRow.holds Try.pinned (OpenSpec.ofChange authorityChecksSpec)

/-- ITS FALSE NEIGHBOUR: 'it returns false'. Refute it at one input. -/
def authorityChecksWrong : ChangeSpec := { name := "authorityChecks", fn := fun _ => fun
  | [d] => { results := [.lit (.bool false)], args := [d] }
  | _ => none }
def AuthorityChecksWrongFalsely : Prop := authorityChecksRow.holds Try.pinned (OpenSpec.ofChange authorityChecksWrong)

/-- 'midrangelaw10.AuthoritySearches': WHATEVER THE INPUT: true; the input reads as it did. -/
def authoritySearchesSpec : ChangeSpec := { name := "authoritySearches", fn := fun _ => fun
  | [d1, d2, d3] => { results := [.lit (.bool true)], args := [d1, d2, d3] }
  | _ => none }
def authoritySearchesRow : OpenClaim := { program := "ytdmcmfdmnlckdaa", sum := "5eb708108ac38cdf6d02109602c2b1da709921a3a6b17a80cd318a9832051b03", func := "midrange/midrangelaw10.AuthoritySearches", spec := "authoritySearches", inPlace := ["internal/bytealg.abigen_runtime_cmpstring"], unfollowed := true, recurses := true, apart := false }
def AuthoritySearchesSaid : Prop := authoritySearchesRow.holds Try.pinned (OpenSpec.ofChange authoritySearchesSpec)

/-- ITS FALSE NEIGHBOUR: 'it returns false'. Refute it at one input. -/
def authoritySearchesWrong : ChangeSpec := { name := "authoritySearches", fn := fun _ => fun
  | [d1, d2, d3] => { results := [.lit (.bool false)], args := [d1, d2, d3] }
  | _ => none }
def AuthoritySearchesWrongFalsely : Prop := authoritySearchesRow.holds Try.pinned (OpenSpec.ofChange authoritySearchesWrong)

/-- 'midrangelaw10.AuthorityAccesses': WHATEVER THE INPUT: true; the input reads as it did. -/
def authorityAccessesSpec : ChangeSpec := { name := "authorityAccesses", fn := fun _ => fun
  | [d1, d2] => { results := [.lit (.bool true)], args := [d1, d2] }
  | _ => none }
def authorityAccessesRow : OpenClaim := { program := "ytdmcmfdmnlckdaa", sum := "5eb708108ac38cdf6d02109602c2b1da709921a3a6b17a80cd318a9832051b03", func := "midrange/midrangelaw10.AuthorityAccesses", spec := "authorityAccesses", inPlace := ["internal/bytealg.abigen_runtime_cmpstring"], unfollowed := true, recurses := true, apart := false }
def AuthorityAccessesSaid : Prop := authorityAccessesRow.holds Try.pinned (OpenSpec.ofChange authorityAccessesSpec)

/-- ITS FALSE NEIGHBOUR: 'it returns false'. Refute it at one input. -/
def authorityAccessesWrong : ChangeSpec := { name := "authorityAccesses", fn := fun _ => fun
  | [d1, d2] => { results := [.lit (.bool false)], args := [d1, d2] }
  | _ => none }
def AuthorityAccessesWrongFalsely : Prop := authorityAccessesRow.holds Try.pinned (OpenSpec.ofChange authorityAccessesWrong)

/-- 'midrangelaw10.AuthorityOwn': WHATEVER THE INPUT: true; the input reads as it did. -/
def authorityOwnSpec : ChangeSpec := { name := "authorityOwn", fn := fun _ => fun
  | [d1, d2, d3] => { results := [.lit (.bool true)], args := [d1, d2, d3] }
  | _ => none }
def authorityOwnRow : OpenClaim := { program := "ytdmcmfdmnlckdaa", sum := "5eb708108ac38cdf6d02109602c2b1da709921a3a6b17a80cd318a9832051b03", func := "midrange/midrangelaw10.AuthorityOwn", spec := "authorityOwn", inPlace := ["internal/bytealg.abigen_runtime_cmpstring"], unfollowed := true, recurses := true, apart := false }
def AuthorityOwnSaid : Prop := authorityOwnRow.holds Try.pinned (OpenSpec.ofChange authorityOwnSpec)

/-- ITS FALSE NEIGHBOUR: 'it returns false'. Refute it at one input. -/
def authorityOwnWrong : ChangeSpec := { name := "authorityOwn", fn := fun _ => fun
  | [d1, d2, d3] => { results := [.lit (.bool false)], args := [d1, d2, d3] }
  | _ => none }
def AuthorityOwnWrongFalsely : Prop := authorityOwnRow.holds Try.pinned (OpenSpec.ofChange authorityOwnWrong)

/-- 'midrangelaw10.AuthorityAdopts': WHATEVER THE INPUT: true; the input reads as it did. -/
def authorityAdoptsSpec : ChangeSpec := { name := "authorityAdopts", fn := fun _ => fun
  | [d1, d2, d3] => { results := [.lit (.bool true)], args := [d1, d2, d3] }
  | _ => none }
def authorityAdoptsRow : OpenClaim := { program := "ytdmcmfdmnlckdaa", sum := "5eb708108ac38cdf6d02109602c2b1da709921a3a6b17a80cd318a9832051b03", func := "midrange/midrangelaw10.AuthorityAdopts", spec := "authorityAdopts", inPlace := ["internal/bytealg.abigen_runtime_cmpstring"], unfollowed := true, recurses := true, apart := false }
def AuthorityAdoptsSaid : Prop := authorityAdoptsRow.holds Try.pinned (OpenSpec.ofChange authorityAdoptsSpec)

/-- ITS FALSE NEIGHBOUR: 'it returns false'. Refute it at one input. -/
def authorityAdoptsWrong : ChangeSpec := { name := "authorityAdopts", fn := fun _ => fun
  | [d1, d2, d3] => { results := [.lit (.bool false)], args := [d1, d2, d3] }
  | _ => none }
def AuthorityAdoptsWrongFalsely : Prop := authorityAdoptsRow.holds Try.pinned (OpenSpec.ofChange authorityAdoptsWrong)

/-- 'midrangelaw10.AuthorityUsers': WHATEVER THE INPUT: true; the input reads as it did. -/
def authorityUsersSpec : ChangeSpec := { name := "authorityUsers", fn := fun _ => fun
  | [d1, d2, d3] => { results := [.lit (.bool true)], args := [d1, d2, d3] }
  | _ => none }
def authorityUsersRow : OpenClaim := { program := "ytdmcmfdmnlckdaa", sum := "5eb708108ac38cdf6d02109602c2b1da709921a3a6b17a80cd318a9832051b03", func := "midrange/midrangelaw10.AuthorityUsers", spec := "authorityUsers", inPlace := ["internal/bytealg.abigen_runtime_cmpstring"], unfollowed := true, recurses := true, apart := false }
def AuthorityUsersSaid : Prop := authorityUsersRow.holds Try.pinned (OpenSpec.ofChange authorityUsersSpec)

/-- ITS FALSE NEIGHBOUR: 'it returns false'. Refute it at one input. -/
def authorityUsersWrong : ChangeSpec := { name := "authorityUsers", fn := fun _ => fun
  | [d1, d2, d3] => { results := [.lit (.bool false)], args := [d1, d2, d3] }
  | _ => none }
def AuthorityUsersWrongFalsely : Prop := authorityUsersRow.holds Try.pinned (OpenSpec.ofChange authorityUsersWrong)

/-- 'midrangelaw10.AuthoritySuperfluous': WHATEVER THE INPUT: true; the input reads as it did. -/
def authoritySuperfluousSpec : ChangeSpec := { name := "authoritySuperfluous", fn := fun _ => fun
  | [d1, d2] => { results := [.lit (.bool true)], args := [d1, d2] }
  | _ => none }
def authoritySuperfluousRow : OpenClaim := { program := "ytdmcmfdmnlckdaa", sum := "5eb708108ac38cdf6d02109602c2b1da709921a3a6b17a80cd318a9832051b03", func := "midrange/midrangelaw10.AuthoritySuperfluous", spec := "authoritySuperfluous", inPlace := ["internal/bytealg.abigen_runtime_cmpstring"], unfollowed := true, recurses := true, apart := false }
def AuthoritySuperfluousSaid : Prop := authoritySuperfluousRow.holds Try.pinned (OpenSpec.ofChange authoritySuperfluousSpec)

/-- ITS FALSE NEIGHBOUR: 'it returns false'. Refute it at one input. -/
def authoritySuperfluousWrong : ChangeSpec := { name := "authoritySuperfluous", fn := fun _ => fun
  | [d1, d2] => { results := [.lit (.bool false)], args := [d1, d2] }
  | _ => none }
def AuthoritySuperfluousWrongFalsely : Prop := authoritySuperfluousRow.holds Try.pinned (OpenSpec.ofChange authoritySuperfluousWrong)

/-- 'midrangelaw10.AuthorityRemoves': WHATEVER THE INPUT: true; the input reads as it did. -/
def authorityRemovesSpec : ChangeSpec := { name := "authorityRemoves", fn := fun _ => fun
  | [d1, d2] => { results := [.lit (.bool true)], args := [d1, d2] }
  | _ => none }
def authorityRemovesRow : OpenClaim := { program := "ytdmcmfdmnlckdaa", sum := "5eb708108ac38cdf6d02109602c2b1da709921a3a6b17a80cd318a9832051b03", func := "midrange/midrangelaw10.AuthorityRemoves", spec := "authorityRemoves", inPlace := ["internal/bytealg.abigen_runtime_cmpstring"], unfollowed := true, recurses := true, apart := false }
def AuthorityRemovesSaid : Prop := authorityRemovesRow.holds Try.pinned (OpenSpec.ofChange authorityRemovesSpec)

/-- ITS FALSE NEIGHBOUR: 'it returns false'. Refute it at one input. -/
def authorityRemovesWrong : ChangeSpec := { name := "authorityRemoves", fn := fun _ => fun
  | [d1, d2] => { results := [.lit (.bool false)], args := [d1, d2] }
  | _ => none }
def AuthorityRemovesWrongFalsely : Prop := authorityRemovesRow.holds Try.pinned (OpenSpec.ofChange authorityRemovesWrong)

/-- 'midrangelaw10.AuthorityAudits': WHATEVER THE INPUT: true; the input reads as it did. -/
def authorityAuditsSpec : ChangeSpec := { name := "authorityAudits", fn := fun _ => fun
  | [d1, d2, d3] => { results := [.lit (.bool true)], args := [d1, d2, d3] }
  | _ => none }
def authorityAuditsRow : OpenClaim := { program := "ytdmcmfdmnlckdaa", sum := "5eb708108ac38cdf6d02109602c2b1da709921a3a6b17a80cd318a9832051b03", func := "midrange/midrangelaw10.AuthorityAudits", spec := "authorityAudits", inPlace := ["internal/bytealg.abigen_runtime_cmpstring"], unfollowed := true, recurses := true, apart := false }
def AuthorityAuditsSaid : Prop := authorityAuditsRow.holds Try.pinned (OpenSpec.ofChange authorityAuditsSpec)

/-- ITS FALSE NEIGHBOUR: 'it returns false'. Refute it at one input. -/
def authorityAuditsWrong : ChangeSpec := { name := "authorityAudits", fn := fun _ => fun
  | [d1, d2, d3] => { results := [.lit (.bool false)], args := [d1, d2, d3] }
  | _ => none }
def AuthorityAuditsWrongFalsely : Prop := authorityAuditsRow.holds Try.pinned (OpenSpec.ofChange authorityAuditsWrong)

/-- 'midrangelaw10.AuthorityLeast': WHATEVER THE INPUT: true; the input reads as it did. -/
def authorityLeastSpec : ChangeSpec := { name := "authorityLeast", fn := fun _ => fun
  | [d1, d2] => { results := [.lit (.bool true)], args := [d1, d2] }
  | _ => none }
def authorityLeastRow : OpenClaim := { program := "ytdmcmfdmnlckdaa", sum := "5eb708108ac38cdf6d02109602c2b1da709921a3a6b17a80cd318a9832051b03", func := "midrange/midrangelaw10.AuthorityLeast", spec := "authorityLeast", inPlace := ["internal/bytealg.abigen_runtime_cmpstring", "slices.overlaps[midrange/api.Grant]"], unfollowed := true, recurses := true, apart := false }
def AuthorityLeastSaid : Prop := authorityLeastRow.holds Try.pinned (OpenSpec.ofChange authorityLeastSpec)

/-- ITS FALSE NEIGHBOUR: 'it returns false'. Refute it at one input. -/
def authorityLeastWrong : ChangeSpec := { name := "authorityLeast", fn := fun _ => fun
  | [d1, d2] => { results := [.lit (.bool false)], args := [d1, d2] }
  | _ => none }
def AuthorityLeastWrongFalsely : Prop := authorityLeastRow.holds Try.pinned (OpenSpec.ofChange authorityLeastWrong)

/-- 'midrangelaw10.AuthorityPrivilege': WHATEVER THE INPUT: true; the input reads as it did. -/
def authorityPrivilegeSpec : ChangeSpec := { name := "authorityPrivilege", fn := fun _ => fun
  | [d1, d2, d3] => { results := [.lit (.bool true)], args := [d1, d2, d3] }
  | _ => none }
def authorityPrivilegeRow : OpenClaim := { program := "ytdmcmfdmnlckdaa", sum := "5eb708108ac38cdf6d02109602c2b1da709921a3a6b17a80cd318a9832051b03", func := "midrange/midrangelaw10.AuthorityPrivilege", spec := "authorityPrivilege", inPlace := ["internal/bytealg.abigen_runtime_cmpstring", "slices.overlaps[midrange/api.Grant]"], unfollowed := true, recurses := true, apart := false }
def AuthorityPrivilegeSaid : Prop := authorityPrivilegeRow.holds Try.pinned (OpenSpec.ofChange authorityPrivilegeSpec)

/-- ITS FALSE NEIGHBOUR: 'it returns false'. Refute it at one input. -/
def authorityPrivilegeWrong : ChangeSpec := { name := "authorityPrivilege", fn := fun _ => fun
  | [d1, d2, d3] => { results := [.lit (.bool false)], args := [d1, d2, d3] }
  | _ => none }
def AuthorityPrivilegeWrongFalsely : Prop := authorityPrivilegeRow.holds Try.pinned (OpenSpec.ofChange authorityPrivilegeWrong)

/-- 'midrangelaw10.AuthorityGrants': WHATEVER THE INPUT: true; the input reads as it did. -/
def authorityGrantsSpec : ChangeSpec := { name := "authorityGrants", fn := fun _ => fun
  | [d1, d2, d3] => { results := [.lit (.bool true)], args := [d1, d2, d3] }
  | _ => none }
def authorityGrantsRow : OpenClaim := { program := "ytdmcmfdmnlckdaa", sum := "5eb708108ac38cdf6d02109602c2b1da709921a3a6b17a80cd318a9832051b03", func := "midrange/midrangelaw10.AuthorityGrants", spec := "authorityGrants", inPlace := ["internal/bytealg.abigen_runtime_cmpstring", "slices.overlaps[midrange/api.Grant]"], unfollowed := true, recurses := true, apart := false }
def AuthorityGrantsSaid : Prop := authorityGrantsRow.holds Try.pinned (OpenSpec.ofChange authorityGrantsSpec)

/-- ITS FALSE NEIGHBOUR: 'it returns false'. Refute it at one input. -/
def authorityGrantsWrong : ChangeSpec := { name := "authorityGrants", fn := fun _ => fun
  | [d1, d2, d3] => { results := [.lit (.bool false)], args := [d1, d2, d3] }
  | _ => none }
def AuthorityGrantsWrongFalsely : Prop := authorityGrantsRow.holds Try.pinned (OpenSpec.ofChange authorityGrantsWrong)

/- THE SECOND FORM. 'bulk': how many values and letters a reading holds, each counted each time it is reached (what is shared counts as often as it is met; a slice's spare places count too). A statement '..UptoSaid' is the law's where the arguments, and the package variables that the reading takes, are together of bulk at most 1048576: NARROWER than '..Said'. Prove '..Said' where nothing that the law and all that it calls make is longer than what came in: it says more and counts as full. Else prove '..UptoSaid'. A law counts once. -/
mutual
def uptoBulk {H : Type} : DataW H → Nat
  | .lit (.string bytes) => bytes.length + 1
  | .lit _ => 1
  | .nil => 1
  | .ptr d => uptoBulk d + 1
  | .slice elems spare => uptoBulkAll elems + uptoBulkAll spare + 1
  | .agg parts => uptoBulkAll parts + 1
  | .iface _ d => uptoBulk d + 1
  | .map entries => uptoBulkEntries entries + 1
  | .held _ => 1
def uptoBulkAll {H : Type} : List (DataW H) → Nat
  | [] => 0
  | d :: r => uptoBulk d + uptoBulkAll r
def uptoBulkEntries {H : Type} : List (Lit × DataW H) → Nat
  | [] => 0
  | x :: r => uptoBulkEntry x + uptoBulkEntries r
def uptoBulkEntry {H : Type} : Lit × DataW H → Nat
  | (.string bytes, d) => bytes.length + uptoBulk d + 1
  | (_, d) => uptoBulk d + 1
 end
def uptoSmall : (H : Type) → List (DataW H) → Bool := fun _ ds => decide (uptoBulkAll ds ≤ 1048576)
def OpenSpec.upto (s : _root_.Go.ChangeSpec) : _root_.Go.OpenSpec := { _root_.Go.OpenSpec.ofChange s with cond := some uptoSmall }

/-- 'midrangelaw10.AuthorityChecks', WHERE WHAT IT READS IS OF BULK AT MOST 1048576: true; the input reads as it did. -/
def authorityChecksUptoRow : OpenClaim := { program := "ytdmcmfdmnlckdaa", sum := "5eb708108ac38cdf6d02109602c2b1da709921a3a6b17a80cd318a9832051b03", func := "midrange/midrangelaw10.AuthorityChecks", spec := "authorityChecks", inPlace := ["internal/bytealg.abigen_runtime_cmpstring"], unfollowed := true, recurses := true, apart := false, narrowed := true }
def AuthorityChecksUptoSaid : Prop := authorityChecksUptoRow.holds Try.pinned (OpenSpec.upto authorityChecksSpec)

/-- 'midrangelaw10.AuthoritySearches', WHERE WHAT IT READS IS OF BULK AT MOST 1048576: true; the input reads as it did. -/
def authoritySearchesUptoRow : OpenClaim := { program := "ytdmcmfdmnlckdaa", sum := "5eb708108ac38cdf6d02109602c2b1da709921a3a6b17a80cd318a9832051b03", func := "midrange/midrangelaw10.AuthoritySearches", spec := "authoritySearches", inPlace := ["internal/bytealg.abigen_runtime_cmpstring"], unfollowed := true, recurses := true, apart := false, narrowed := true }
def AuthoritySearchesUptoSaid : Prop := authoritySearchesUptoRow.holds Try.pinned (OpenSpec.upto authoritySearchesSpec)

/-- 'midrangelaw10.AuthorityAccesses', WHERE WHAT IT READS IS OF BULK AT MOST 1048576: true; the input reads as it did. -/
def authorityAccessesUptoRow : OpenClaim := { program := "ytdmcmfdmnlckdaa", sum := "5eb708108ac38cdf6d02109602c2b1da709921a3a6b17a80cd318a9832051b03", func := "midrange/midrangelaw10.AuthorityAccesses", spec := "authorityAccesses", inPlace := ["internal/bytealg.abigen_runtime_cmpstring"], unfollowed := true, recurses := true, apart := false, narrowed := true }
def AuthorityAccessesUptoSaid : Prop := authorityAccessesUptoRow.holds Try.pinned (OpenSpec.upto authorityAccessesSpec)

/-- 'midrangelaw10.AuthorityOwn', WHERE WHAT IT READS IS OF BULK AT MOST 1048576: true; the input reads as it did. -/
def authorityOwnUptoRow : OpenClaim := { program := "ytdmcmfdmnlckdaa", sum := "5eb708108ac38cdf6d02109602c2b1da709921a3a6b17a80cd318a9832051b03", func := "midrange/midrangelaw10.AuthorityOwn", spec := "authorityOwn", inPlace := ["internal/bytealg.abigen_runtime_cmpstring"], unfollowed := true, recurses := true, apart := false, narrowed := true }
def AuthorityOwnUptoSaid : Prop := authorityOwnUptoRow.holds Try.pinned (OpenSpec.upto authorityOwnSpec)

/-- 'midrangelaw10.AuthorityAdopts', WHERE WHAT IT READS IS OF BULK AT MOST 1048576: true; the input reads as it did. -/
def authorityAdoptsUptoRow : OpenClaim := { program := "ytdmcmfdmnlckdaa", sum := "5eb708108ac38cdf6d02109602c2b1da709921a3a6b17a80cd318a9832051b03", func := "midrange/midrangelaw10.AuthorityAdopts", spec := "authorityAdopts", inPlace := ["internal/bytealg.abigen_runtime_cmpstring"], unfollowed := true, recurses := true, apart := false, narrowed := true }
def AuthorityAdoptsUptoSaid : Prop := authorityAdoptsUptoRow.holds Try.pinned (OpenSpec.upto authorityAdoptsSpec)

/-- 'midrangelaw10.AuthorityUsers', WHERE WHAT IT READS IS OF BULK AT MOST 1048576: true; the input reads as it did. -/
def authorityUsersUptoRow : OpenClaim := { program := "ytdmcmfdmnlckdaa", sum := "5eb708108ac38cdf6d02109602c2b1da709921a3a6b17a80cd318a9832051b03", func := "midrange/midrangelaw10.AuthorityUsers", spec := "authorityUsers", inPlace := ["internal/bytealg.abigen_runtime_cmpstring"], unfollowed := true, recurses := true, apart := false, narrowed := true }
def AuthorityUsersUptoSaid : Prop := authorityUsersUptoRow.holds Try.pinned (OpenSpec.upto authorityUsersSpec)

/-- 'midrangelaw10.AuthoritySuperfluous', WHERE WHAT IT READS IS OF BULK AT MOST 1048576: true; the input reads as it did. -/
def authoritySuperfluousUptoRow : OpenClaim := { program := "ytdmcmfdmnlckdaa", sum := "5eb708108ac38cdf6d02109602c2b1da709921a3a6b17a80cd318a9832051b03", func := "midrange/midrangelaw10.AuthoritySuperfluous", spec := "authoritySuperfluous", inPlace := ["internal/bytealg.abigen_runtime_cmpstring"], unfollowed := true, recurses := true, apart := false, narrowed := true }
def AuthoritySuperfluousUptoSaid : Prop := authoritySuperfluousUptoRow.holds Try.pinned (OpenSpec.upto authoritySuperfluousSpec)

/-- 'midrangelaw10.AuthorityRemoves', WHERE WHAT IT READS IS OF BULK AT MOST 1048576: true; the input reads as it did. -/
def authorityRemovesUptoRow : OpenClaim := { program := "ytdmcmfdmnlckdaa", sum := "5eb708108ac38cdf6d02109602c2b1da709921a3a6b17a80cd318a9832051b03", func := "midrange/midrangelaw10.AuthorityRemoves", spec := "authorityRemoves", inPlace := ["internal/bytealg.abigen_runtime_cmpstring"], unfollowed := true, recurses := true, apart := false, narrowed := true }
def AuthorityRemovesUptoSaid : Prop := authorityRemovesUptoRow.holds Try.pinned (OpenSpec.upto authorityRemovesSpec)

/-- 'midrangelaw10.AuthorityAudits', WHERE WHAT IT READS IS OF BULK AT MOST 1048576: true; the input reads as it did. -/
def authorityAuditsUptoRow : OpenClaim := { program := "ytdmcmfdmnlckdaa", sum := "5eb708108ac38cdf6d02109602c2b1da709921a3a6b17a80cd318a9832051b03", func := "midrange/midrangelaw10.AuthorityAudits", spec := "authorityAudits", inPlace := ["internal/bytealg.abigen_runtime_cmpstring"], unfollowed := true, recurses := true, apart := false, narrowed := true }
def AuthorityAuditsUptoSaid : Prop := authorityAuditsUptoRow.holds Try.pinned (OpenSpec.upto authorityAuditsSpec)

/-- 'midrangelaw10.AuthorityLeast', WHERE WHAT IT READS IS OF BULK AT MOST 1048576: true; the input reads as it did. -/
def authorityLeastUptoRow : OpenClaim := { program := "ytdmcmfdmnlckdaa", sum := "5eb708108ac38cdf6d02109602c2b1da709921a3a6b17a80cd318a9832051b03", func := "midrange/midrangelaw10.AuthorityLeast", spec := "authorityLeast", inPlace := ["internal/bytealg.abigen_runtime_cmpstring", "slices.overlaps[midrange/api.Grant]"], unfollowed := true, recurses := true, apart := false, narrowed := true }
def AuthorityLeastUptoSaid : Prop := authorityLeastUptoRow.holds Try.pinned (OpenSpec.upto authorityLeastSpec)

/-- 'midrangelaw10.AuthorityPrivilege', WHERE WHAT IT READS IS OF BULK AT MOST 1048576: true; the input reads as it did. -/
def authorityPrivilegeUptoRow : OpenClaim := { program := "ytdmcmfdmnlckdaa", sum := "5eb708108ac38cdf6d02109602c2b1da709921a3a6b17a80cd318a9832051b03", func := "midrange/midrangelaw10.AuthorityPrivilege", spec := "authorityPrivilege", inPlace := ["internal/bytealg.abigen_runtime_cmpstring", "slices.overlaps[midrange/api.Grant]"], unfollowed := true, recurses := true, apart := false, narrowed := true }
def AuthorityPrivilegeUptoSaid : Prop := authorityPrivilegeUptoRow.holds Try.pinned (OpenSpec.upto authorityPrivilegeSpec)

/-- 'midrangelaw10.AuthorityGrants', WHERE WHAT IT READS IS OF BULK AT MOST 1048576: true; the input reads as it did. -/
def authorityGrantsUptoRow : OpenClaim := { program := "ytdmcmfdmnlckdaa", sum := "5eb708108ac38cdf6d02109602c2b1da709921a3a6b17a80cd318a9832051b03", func := "midrange/midrangelaw10.AuthorityGrants", spec := "authorityGrants", inPlace := ["internal/bytealg.abigen_runtime_cmpstring", "slices.overlaps[midrange/api.Grant]"], unfollowed := true, recurses := true, apart := false, narrowed := true }
def AuthorityGrantsUptoSaid : Prop := authorityGrantsUptoRow.holds Try.pinned (OpenSpec.upto authorityGrantsSpec)

end Rows
end Go.Proofs.Ytdmcmfdmnlckdaa
