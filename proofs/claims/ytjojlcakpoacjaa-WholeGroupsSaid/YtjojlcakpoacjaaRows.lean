/-
  No cell of these rows narrows 'for every input' (looked for: loops, veiled, ifaces, maps, wideKeys, modest, calm, conditions, laid).
  DERIVED. THE GIVEN ROWS OF THIS SEAT. 10 by the template 'for every input the law returns true; each argument reads behind the call as it read before'; 0 by the template 'total and deterministic' (their statements: YtjojlcakpoacjaaTotals.lean).
  GIVEN WITH THE SEED: the statements are not yours to turn. If you find one false, say at which input.
  Laid BY PROGRAM, IN A SANDBOX (cutbox-rows.mjs): the forced cells as the released guide's own fill.sh prints them over the translation 743556252a1062ea… (all of the seat's roots in one cut). By AI agents, Wed Nov 11 2026. No macro, syntax, notation, axiom, sorry.
-/
import Derived.Test.YtjojlcakpoacjaaChecked
import GoSem.Claim
import GoSem.ClaimJoined
import GoSem.ClaimMapViews
import Derived.JoinedTies
import Derived.KernelRfl
namespace Go.Proofs.Ytjojlcakpoacjaa
/- THE CELL 'sum', in the pinned program and in every row, IS THE sha256 OF THE DUMP (.gsa) THAT YtjojlcakpoacjaaProg.lean LOADS. Nothing in Lean hashes anything: it is a label: what it is worth is what the hold of that sum in a sandbox is worth. -/
noncomputable def Try.pinned : Pinned := { name := "ytjojlcakpoacjaa", sum := "743556252a1062ea4434f776827a873ee83677372bc248c3663354c9e4ca2fdb", checked := Try.checked }
namespace Rows
def none {H : Type} : Left H := { results := [], args := [] }

/-- 'facettop.WholeShears': WHATEVER THE INPUT: true; the input reads as it did. -/
def wholeShearsSpec : ChangeSpec := { name := "wholeShears", fn := fun _ => fun
  | [d1, d2, d3] => { results := [.lit (.bool true)], args := [d1, d2, d3] }
  | _ => none }
def wholeShearsRow : OpenClaim := { program := "ytjojlcakpoacjaa", sum := "743556252a1062ea4434f776827a873ee83677372bc248c3663354c9e4ca2fdb", func := "facet/facettop.WholeShears", spec := "wholeShears", unfollowed := true, recurses := true, plainKeys := false, apart := false }
def WholeShearsSaid : Prop := wholeShearsRow.holds Try.pinned (OpenSpec.ofChange wholeShearsSpec)

/-- ITS FALSE NEIGHBOUR: 'it returns false'. Refute it at one input. -/
def wholeShearsWrong : ChangeSpec := { name := "wholeShears", fn := fun _ => fun
  | [d1, d2, d3] => { results := [.lit (.bool false)], args := [d1, d2, d3] }
  | _ => none }
def WholeShearsWrongFalsely : Prop := wholeShearsRow.holds Try.pinned (OpenSpec.ofChange wholeShearsWrong)

/-- 'facettop.WholeGroups': WHATEVER THE INPUT: true; the input reads as it did. -/
def wholeGroupsSpec : ChangeSpec := { name := "wholeGroups", fn := fun _ => fun
  | [d] => { results := [.lit (.bool true)], args := [d] }
  | _ => none }
def wholeGroupsRow : OpenClaim := { program := "ytjojlcakpoacjaa", sum := "743556252a1062ea4434f776827a873ee83677372bc248c3663354c9e4ca2fdb", func := "facet/facettop.WholeGroups", spec := "wholeGroups", unfollowed := true, recurses := true, plainKeys := false, apart := false }
def WholeGroupsSaid : Prop := wholeGroupsRow.holds Try.pinned (OpenSpec.ofChange wholeGroupsSpec)

/-- ITS FALSE NEIGHBOUR: 'it returns false'. Refute it at one input. -/
def wholeGroupsWrong : ChangeSpec := { name := "wholeGroups", fn := fun _ => fun
  | [d] => { results := [.lit (.bool false)], args := [d] }
  | _ => none }
def WholeGroupsWrongFalsely : Prop := wholeGroupsRow.holds Try.pinned (OpenSpec.ofChange wholeGroupsWrong)

/-- 'facetlaw05.GroupCloses': WHATEVER THE INPUT: true; the input reads as it did. -/
def groupClosesSpec : ChangeSpec := { name := "groupCloses", fn := fun _ => fun
  | [d] => { results := [.lit (.bool true)], args := [d] }
  | _ => none }
def groupClosesRow : OpenClaim := { program := "ytjojlcakpoacjaa", sum := "743556252a1062ea4434f776827a873ee83677372bc248c3663354c9e4ca2fdb", func := "facet/facetlaw05.GroupCloses", spec := "groupCloses", unfollowed := true, recurses := true, plainKeys := false, apart := false }
def GroupClosesSaid : Prop := groupClosesRow.holds Try.pinned (OpenSpec.ofChange groupClosesSpec)

/-- ITS FALSE NEIGHBOUR: 'it returns false'. Refute it at one input. -/
def groupClosesWrong : ChangeSpec := { name := "groupCloses", fn := fun _ => fun
  | [d] => { results := [.lit (.bool false)], args := [d] }
  | _ => none }
def GroupClosesWrongFalsely : Prop := groupClosesRow.holds Try.pinned (OpenSpec.ofChange groupClosesWrong)

/-- 'facetlaw05.GroupChecks': WHATEVER THE INPUT: true; the input reads as it did. -/
def groupChecksSpec : ChangeSpec := { name := "groupChecks", fn := fun _ => fun
  | [d1, d2] => { results := [.lit (.bool true)], args := [d1, d2] }
  | _ => none }
def groupChecksRow : OpenClaim := { program := "ytjojlcakpoacjaa", sum := "743556252a1062ea4434f776827a873ee83677372bc248c3663354c9e4ca2fdb", func := "facet/facetlaw05.GroupChecks", spec := "groupChecks", unfollowed := true, recurses := true, plainKeys := false, apart := false }
def GroupChecksSaid : Prop := groupChecksRow.holds Try.pinned (OpenSpec.ofChange groupChecksSpec)

/-- ITS FALSE NEIGHBOUR: 'it returns false'. Refute it at one input. -/
def groupChecksWrong : ChangeSpec := { name := "groupChecks", fn := fun _ => fun
  | [d1, d2] => { results := [.lit (.bool false)], args := [d1, d2] }
  | _ => none }
def GroupChecksWrongFalsely : Prop := groupChecksRow.holds Try.pinned (OpenSpec.ofChange groupChecksWrong)

/-- 'facetlaw05.GroupTables': WHATEVER THE INPUT: true; the input reads as it did. -/
def groupTablesSpec : ChangeSpec := { name := "groupTables", fn := fun _ => fun
  | [d] => { results := [.lit (.bool true)], args := [d] }
  | _ => none }
def groupTablesRow : OpenClaim := { program := "ytjojlcakpoacjaa", sum := "743556252a1062ea4434f776827a873ee83677372bc248c3663354c9e4ca2fdb", func := "facet/facetlaw05.GroupTables", spec := "groupTables", unfollowed := true, recurses := true, plainKeys := false, apart := false }
def GroupTablesSaid : Prop := groupTablesRow.holds Try.pinned (OpenSpec.ofChange groupTablesSpec)

/-- ITS FALSE NEIGHBOUR: 'it returns false'. Refute it at one input. -/
def groupTablesWrong : ChangeSpec := { name := "groupTables", fn := fun _ => fun
  | [d] => { results := [.lit (.bool false)], args := [d] }
  | _ => none }
def GroupTablesWrongFalsely : Prop := groupTablesRow.holds Try.pinned (OpenSpec.ofChange groupTablesWrong)

/-- 'facetlaw05.GroupKeeps': WHATEVER THE INPUT: true; the input reads as it did. -/
def groupKeepsSpec : ChangeSpec := { name := "groupKeeps", fn := fun _ => fun
  | [d] => { results := [.lit (.bool true)], args := [d] }
  | _ => none }
def groupKeepsRow : OpenClaim := { program := "ytjojlcakpoacjaa", sum := "743556252a1062ea4434f776827a873ee83677372bc248c3663354c9e4ca2fdb", func := "facet/facetlaw05.GroupKeeps", spec := "groupKeeps", unfollowed := true, recurses := true, plainKeys := false, apart := false }
def GroupKeepsSaid : Prop := groupKeepsRow.holds Try.pinned (OpenSpec.ofChange groupKeepsSpec)

/-- ITS FALSE NEIGHBOUR: 'it returns false'. Refute it at one input. -/
def groupKeepsWrong : ChangeSpec := { name := "groupKeeps", fn := fun _ => fun
  | [d] => { results := [.lit (.bool false)], args := [d] }
  | _ => none }
def GroupKeepsWrongFalsely : Prop := groupKeepsRow.holds Try.pinned (OpenSpec.ofChange groupKeepsWrong)

/-- 'facetlaw05.GroupBroken': WHATEVER THE INPUT: true; the input reads as it did. -/
def groupBrokenSpec : ChangeSpec := { name := "groupBroken", fn := fun _ => fun
  | [d1, d2, d3] => { results := [.lit (.bool true)], args := [d1, d2, d3] }
  | _ => none }
def groupBrokenRow : OpenClaim := { program := "ytjojlcakpoacjaa", sum := "743556252a1062ea4434f776827a873ee83677372bc248c3663354c9e4ca2fdb", func := "facet/facetlaw05.GroupBroken", spec := "groupBroken", unfollowed := true, recurses := true, plainKeys := false, apart := false }
def GroupBrokenSaid : Prop := groupBrokenRow.holds Try.pinned (OpenSpec.ofChange groupBrokenSpec)

/-- ITS FALSE NEIGHBOUR: 'it returns false'. Refute it at one input. -/
def groupBrokenWrong : ChangeSpec := { name := "groupBroken", fn := fun _ => fun
  | [d1, d2, d3] => { results := [.lit (.bool false)], args := [d1, d2, d3] }
  | _ => none }
def GroupBrokenWrongFalsely : Prop := groupBrokenRow.holds Try.pinned (OpenSpec.ofChange groupBrokenWrong)

/-- 'facetlaw05.GroupParts': WHATEVER THE INPUT: true; the input reads as it did. -/
def groupPartsSpec : ChangeSpec := { name := "groupParts", fn := fun _ => fun
  | [d] => { results := [.lit (.bool true)], args := [d] }
  | _ => none }
def groupPartsRow : OpenClaim := { program := "ytjojlcakpoacjaa", sum := "743556252a1062ea4434f776827a873ee83677372bc248c3663354c9e4ca2fdb", func := "facet/facetlaw05.GroupParts", spec := "groupParts", unfollowed := true, recurses := true, plainKeys := false, apart := false }
def GroupPartsSaid : Prop := groupPartsRow.holds Try.pinned (OpenSpec.ofChange groupPartsSpec)

/-- ITS FALSE NEIGHBOUR: 'it returns false'. Refute it at one input. -/
def groupPartsWrong : ChangeSpec := { name := "groupParts", fn := fun _ => fun
  | [d] => { results := [.lit (.bool false)], args := [d] }
  | _ => none }
def GroupPartsWrongFalsely : Prop := groupPartsRow.holds Try.pinned (OpenSpec.ofChange groupPartsWrong)

/-- 'facetlaw05.GroupLeast': WHATEVER THE INPUT: true; the input reads as it did. -/
def groupLeastSpec : ChangeSpec := { name := "groupLeast", fn := fun _ => fun
  | [d1, d2] => { results := [.lit (.bool true)], args := [d1, d2] }
  | _ => none }
def groupLeastRow : OpenClaim := { program := "ytjojlcakpoacjaa", sum := "743556252a1062ea4434f776827a873ee83677372bc248c3663354c9e4ca2fdb", func := "facet/facetlaw05.GroupLeast", spec := "groupLeast", unfollowed := true, recurses := true, plainKeys := false, apart := false }
def GroupLeastSaid : Prop := groupLeastRow.holds Try.pinned (OpenSpec.ofChange groupLeastSpec)

/-- ITS FALSE NEIGHBOUR: 'it returns false'. Refute it at one input. -/
def groupLeastWrong : ChangeSpec := { name := "groupLeast", fn := fun _ => fun
  | [d1, d2] => { results := [.lit (.bool false)], args := [d1, d2] }
  | _ => none }
def GroupLeastWrongFalsely : Prop := groupLeastRow.holds Try.pinned (OpenSpec.ofChange groupLeastWrong)

/-- 'facetlaw05.GroupProducts': WHATEVER THE INPUT: true; the input reads as it did. -/
def groupProductsSpec : ChangeSpec := { name := "groupProducts", fn := fun _ => fun
  | [d1, d2, d3] => { results := [.lit (.bool true)], args := [d1, d2, d3] }
  | _ => none }
def groupProductsRow : OpenClaim := { program := "ytjojlcakpoacjaa", sum := "743556252a1062ea4434f776827a873ee83677372bc248c3663354c9e4ca2fdb", func := "facet/facetlaw05.GroupProducts", spec := "groupProducts", unfollowed := true, recurses := true, plainKeys := false, apart := false }
def GroupProductsSaid : Prop := groupProductsRow.holds Try.pinned (OpenSpec.ofChange groupProductsSpec)

/-- ITS FALSE NEIGHBOUR: 'it returns false'. Refute it at one input. -/
def groupProductsWrong : ChangeSpec := { name := "groupProducts", fn := fun _ => fun
  | [d1, d2, d3] => { results := [.lit (.bool false)], args := [d1, d2, d3] }
  | _ => none }
def GroupProductsWrongFalsely : Prop := groupProductsRow.holds Try.pinned (OpenSpec.ofChange groupProductsWrong)

/- THE SECOND FORM. 'bulk': how many values and letters a reading holds, each counted each time it is reached (what is shared counts as often as it is met; a slice's spare places count too). A statement '..UptoSaid' is the law's where the arguments, and the package variables that the reading takes, are together of bulk at most 1048576: NARROWER than '..Said'. Prove '..Said' where nothing that the law and all that it calls make is longer than what came in: it says more and counts as full. Else prove '..UptoSaid'. A law counts once. -/
mutual
def uptoBulk {H : Type} : DataW H → Nat
  | .lit (.string bytes) => bytes.length + 1
  | .lit _ => 1
  | .nil => 1
  | .ptr d => uptoBulk d + 1
  | .slice elems spare => uptoBulkAll elems + uptoBulkAll spare + 1
  | .agg parts => uptoBulkAll parts + 1
  | .iface _ d => uptoBulk d + 1
  | .map entries => uptoBulkEntries entries + 1
  | .held _ => 1
def uptoBulkAll {H : Type} : List (DataW H) → Nat
  | [] => 0
  | d :: r => uptoBulk d + uptoBulkAll r
def uptoBulkEntries {H : Type} : List (Lit × DataW H) → Nat
  | [] => 0
  | x :: r => uptoBulkEntry x + uptoBulkEntries r
def uptoBulkEntry {H : Type} : Lit × DataW H → Nat
  | (.string bytes, d) => bytes.length + uptoBulk d + 1
  | (_, d) => uptoBulk d + 1
 end
def uptoSmall : (H : Type) → List (DataW H) → Bool := fun _ ds => decide (uptoBulkAll ds ≤ 1048576)
def OpenSpec.upto (s : _root_.Go.ChangeSpec) : _root_.Go.OpenSpec := { _root_.Go.OpenSpec.ofChange s with cond := some uptoSmall }

/-- 'facettop.WholeShears', WHERE WHAT IT READS IS OF BULK AT MOST 1048576: true; the input reads as it did. -/
def wholeShearsUptoRow : OpenClaim := { program := "ytjojlcakpoacjaa", sum := "743556252a1062ea4434f776827a873ee83677372bc248c3663354c9e4ca2fdb", func := "facet/facettop.WholeShears", spec := "wholeShears", unfollowed := true, recurses := true, plainKeys := false, apart := false, narrowed := true }
def WholeShearsUptoSaid : Prop := wholeShearsUptoRow.holds Try.pinned (OpenSpec.upto wholeShearsSpec)

/-- 'facettop.WholeGroups', WHERE WHAT IT READS IS OF BULK AT MOST 1048576: true; the input reads as it did. -/
def wholeGroupsUptoRow : OpenClaim := { program := "ytjojlcakpoacjaa", sum := "743556252a1062ea4434f776827a873ee83677372bc248c3663354c9e4ca2fdb", func := "facet/facettop.WholeGroups", spec := "wholeGroups", unfollowed := true, recurses := true, plainKeys := false, apart := false, narrowed := true }
def WholeGroupsUptoSaid : Prop := wholeGroupsUptoRow.holds Try.pinned (OpenSpec.upto wholeGroupsSpec)

/-- 'facetlaw05.GroupCloses', WHERE WHAT IT READS IS OF BULK AT MOST 1048576: true; the input reads as it did. -/
def groupClosesUptoRow : OpenClaim := { program := "ytjojlcakpoacjaa", sum := "743556252a1062ea4434f776827a873ee83677372bc248c3663354c9e4ca2fdb", func := "facet/facetlaw05.GroupCloses", spec := "groupCloses", unfollowed := true, recurses := true, plainKeys := false, apart := false, narrowed := true }
def GroupClosesUptoSaid : Prop := groupClosesUptoRow.holds Try.pinned (OpenSpec.upto groupClosesSpec)

/-- 'facetlaw05.GroupChecks', WHERE WHAT IT READS IS OF BULK AT MOST 1048576: true; the input reads as it did. -/
def groupChecksUptoRow : OpenClaim := { program := "ytjojlcakpoacjaa", sum := "743556252a1062ea4434f776827a873ee83677372bc248c3663354c9e4ca2fdb", func := "facet/facetlaw05.GroupChecks", spec := "groupChecks", unfollowed := true, recurses := true, plainKeys := false, apart := false, narrowed := true }
def GroupChecksUptoSaid : Prop := groupChecksUptoRow.holds Try.pinned (OpenSpec.upto groupChecksSpec)

/-- 'facetlaw05.GroupTables', WHERE WHAT IT READS IS OF BULK AT MOST 1048576: true; the input reads as it did. -/
def groupTablesUptoRow : OpenClaim := { program := "ytjojlcakpoacjaa", sum := "743556252a1062ea4434f776827a873ee83677372bc248c3663354c9e4ca2fdb", func := "facet/facetlaw05.GroupTables", spec := "groupTables", unfollowed := true, recurses := true, plainKeys := false, apart := false, narrowed := true }
def GroupTablesUptoSaid : Prop := groupTablesUptoRow.holds Try.pinned (OpenSpec.upto groupTablesSpec)

/-- 'facetlaw05.GroupKeeps', WHERE WHAT IT READS IS OF BULK AT MOST 1048576: true; the input reads as it did. -/
def groupKeepsUptoRow : OpenClaim := { program := "ytjojlcakpoacjaa", sum := "743556252a1062ea4434f776827a873ee83677372bc248c3663354c9e4ca2fdb", func := "facet/facetlaw05.GroupKeeps", spec := "groupKeeps", unfollowed := true, recurses := true, plainKeys := false, apart := false, narrowed := true }
def GroupKeepsUptoSaid : Prop := groupKeepsUptoRow.holds Try.pinned (OpenSpec.upto groupKeepsSpec)

/-- 'facetlaw05.GroupBroken', WHERE WHAT IT READS IS OF BULK AT MOST 1048576: true; the input reads as it did. -/
def groupBrokenUptoRow : OpenClaim := { program := "ytjojlcakpoacjaa", sum := "743556252a1062ea4434f776827a873ee83677372bc248c3663354c9e4ca2fdb", func := "facet/facetlaw05.GroupBroken", spec := "groupBroken", unfollowed := true, recurses := true, plainKeys := false, apart := false, narrowed := true }
def GroupBrokenUptoSaid : Prop := groupBrokenUptoRow.holds Try.pinned (OpenSpec.upto groupBrokenSpec)

/-- 'facetlaw05.GroupParts', WHERE WHAT IT READS IS OF BULK AT MOST 1048576: true; the input reads as it did. -/
def groupPartsUptoRow : OpenClaim := { program := "ytjojlcakpoacjaa", sum := "743556252a1062ea4434f776827a873ee83677372bc248c3663354c9e4ca2fdb", func := "facet/facetlaw05.GroupParts", spec := "groupParts", unfollowed := true, recurses := true, plainKeys := false, apart := false, narrowed := true }
def GroupPartsUptoSaid : Prop := groupPartsUptoRow.holds Try.pinned (OpenSpec.upto groupPartsSpec)

/-- 'facetlaw05.GroupLeast', WHERE WHAT IT READS IS OF BULK AT MOST 1048576: true; the input reads as it did. -/
def groupLeastUptoRow : OpenClaim := { program := "ytjojlcakpoacjaa", sum := "743556252a1062ea4434f776827a873ee83677372bc248c3663354c9e4ca2fdb", func := "facet/facetlaw05.GroupLeast", spec := "groupLeast", unfollowed := true, recurses := true, plainKeys := false, apart := false, narrowed := true }
def GroupLeastUptoSaid : Prop := groupLeastUptoRow.holds Try.pinned (OpenSpec.upto groupLeastSpec)

/-- 'facetlaw05.GroupProducts', WHERE WHAT IT READS IS OF BULK AT MOST 1048576: true; the input reads as it did. -/
def groupProductsUptoRow : OpenClaim := { program := "ytjojlcakpoacjaa", sum := "743556252a1062ea4434f776827a873ee83677372bc248c3663354c9e4ca2fdb", func := "facet/facetlaw05.GroupProducts", spec := "groupProducts", unfollowed := true, recurses := true, plainKeys := false, apart := false, narrowed := true }
def GroupProductsUptoSaid : Prop := groupProductsUptoRow.holds Try.pinned (OpenSpec.upto groupProductsSpec)

end Rows
end Go.Proofs.Ytjojlcakpoacjaa
