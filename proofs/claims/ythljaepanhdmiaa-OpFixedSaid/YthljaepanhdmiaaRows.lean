/-
  No cell of these rows narrows 'for every input' (looked for: loops, veiled, ifaces, maps, wideKeys, modest, calm, conditions, laid).
  DERIVED. THE GIVEN ROWS OF THIS SEAT. 9 by the template 'for every input the law returns true; each argument reads behind the call as it read before'; 0 by the template 'total and deterministic' (their statements: YthljaepanhdmiaaTotals.lean).
  GIVEN WITH THE SEED: the statements are not yours to turn. If you find one false, say at which input.
  Laid BY PROGRAM, IN A SANDBOX (cutbox-rows.mjs): the forced cells as the released guide's own fill.sh prints them over the translation d2b050d9a887eb8b… (all of the seat's roots in one cut). By AI agents, Wed Nov 11 2026. No macro, syntax, notation, axiom, sorry.
-/
import Derived.Test.YthljaepanhdmiaaChecked
import GoSem.Claim
import GoSem.ClaimJoined
import GoSem.ClaimMapViews
import Derived.JoinedTies
import Derived.KernelRfl
namespace Go.Proofs.Ythljaepanhdmiaa
/- THE CELL 'sum', in the pinned program and in every row, IS THE sha256 OF THE DUMP (.gsa) THAT YthljaepanhdmiaaProg.lean LOADS. Nothing in Lean hashes anything: it is a label: what it is worth is what the hold of that sum in a sandbox is worth. -/
noncomputable def Try.pinned : Pinned := { name := "ythljaepanhdmiaa", sum := "d2b050d9a887eb8bc90f52e7bd23046764cedbe33e224826ce87ae120cdbba1c", checked := Try.checked }
namespace Rows
def none {H : Type} : Left H := { results := [], args := [] }

/-- 'facetlaw03.OpOrders': WHATEVER THE INPUT: true; the input reads as it did. -/
def opOrdersSpec : ChangeSpec := { name := "opOrders", fn := fun _ => fun
  | [d] => { results := [.lit (.bool true)], args := [d] }
  | _ => none }
def opOrdersRow : OpenClaim := { program := "ythljaepanhdmiaa", sum := "d2b050d9a887eb8bc90f52e7bd23046764cedbe33e224826ce87ae120cdbba1c", func := "facet/facetlaw03.OpOrders", spec := "opOrders", unfollowed := true, recurses := true, apart := false }
def OpOrdersSaid : Prop := opOrdersRow.holds Try.pinned (OpenSpec.ofChange opOrdersSpec)

/-- ITS FALSE NEIGHBOUR: 'it returns false'. Refute it at one input. -/
def opOrdersWrong : ChangeSpec := { name := "opOrders", fn := fun _ => fun
  | [d] => { results := [.lit (.bool false)], args := [d] }
  | _ => none }
def OpOrdersWrongFalsely : Prop := opOrdersRow.holds Try.pinned (OpenSpec.ofChange opOrdersWrong)

/-- 'facetlaw03.OpMakes': WHATEVER THE INPUT: true; the input reads as it did. -/
def opMakesSpec : ChangeSpec := { name := "opMakes", fn := fun _ => fun
  | [d1, d2] => { results := [.lit (.bool true)], args := [d1, d2] }
  | _ => none }
def opMakesRow : OpenClaim := { program := "ythljaepanhdmiaa", sum := "d2b050d9a887eb8bc90f52e7bd23046764cedbe33e224826ce87ae120cdbba1c", func := "facet/facetlaw03.OpMakes", spec := "opMakes", unfollowed := true, recurses := true, apart := false }
def OpMakesSaid : Prop := opMakesRow.holds Try.pinned (OpenSpec.ofChange opMakesSpec)

/-- ITS FALSE NEIGHBOUR: 'it returns false'. Refute it at one input. -/
def opMakesWrong : ChangeSpec := { name := "opMakes", fn := fun _ => fun
  | [d1, d2] => { results := [.lit (.bool false)], args := [d1, d2] }
  | _ => none }
def OpMakesWrongFalsely : Prop := opMakesRow.holds Try.pinned (OpenSpec.ofChange opMakesWrong)

/-- 'facetlaw03.OpMuls': WHATEVER THE INPUT: true; the input reads as it did. -/
def opMulsSpec : ChangeSpec := { name := "opMuls", fn := fun _ => fun
  | [d1, d2] => { results := [.lit (.bool true)], args := [d1, d2] }
  | _ => none }
def opMulsRow : OpenClaim := { program := "ythljaepanhdmiaa", sum := "d2b050d9a887eb8bc90f52e7bd23046764cedbe33e224826ce87ae120cdbba1c", func := "facet/facetlaw03.OpMuls", spec := "opMuls", unfollowed := true, recurses := true, apart := false }
def OpMulsSaid : Prop := opMulsRow.holds Try.pinned (OpenSpec.ofChange opMulsSpec)

/-- ITS FALSE NEIGHBOUR: 'it returns false'. Refute it at one input. -/
def opMulsWrong : ChangeSpec := { name := "opMuls", fn := fun _ => fun
  | [d1, d2] => { results := [.lit (.bool false)], args := [d1, d2] }
  | _ => none }
def OpMulsWrongFalsely : Prop := opMulsRow.holds Try.pinned (OpenSpec.ofChange opMulsWrong)

/-- 'facetlaw03.OpTurns': WHATEVER THE INPUT: true; the input reads as it did. -/
def opTurnsSpec : ChangeSpec := { name := "opTurns", fn := fun _ => fun
  | [d1, d2] => { results := [.lit (.bool true)], args := [d1, d2] }
  | _ => none }
def opTurnsRow : OpenClaim := { program := "ythljaepanhdmiaa", sum := "d2b050d9a887eb8bc90f52e7bd23046764cedbe33e224826ce87ae120cdbba1c", func := "facet/facetlaw03.OpTurns", spec := "opTurns", unfollowed := true, recurses := true, apart := false }
def OpTurnsSaid : Prop := opTurnsRow.holds Try.pinned (OpenSpec.ofChange opTurnsSpec)

/-- ITS FALSE NEIGHBOUR: 'it returns false'. Refute it at one input. -/
def opTurnsWrong : ChangeSpec := { name := "opTurns", fn := fun _ => fun
  | [d1, d2] => { results := [.lit (.bool false)], args := [d1, d2] }
  | _ => none }
def OpTurnsWrongFalsely : Prop := opTurnsRow.holds Try.pinned (OpenSpec.ofChange opTurnsWrong)

/-- 'facetlaw03.OpCompares': WHATEVER THE INPUT: true; the input reads as it did. -/
def opComparesSpec : ChangeSpec := { name := "opCompares", fn := fun _ => fun
  | [d1, d2, d3] => { results := [.lit (.bool true)], args := [d1, d2, d3] }
  | _ => none }
def opComparesRow : OpenClaim := { program := "ythljaepanhdmiaa", sum := "d2b050d9a887eb8bc90f52e7bd23046764cedbe33e224826ce87ae120cdbba1c", func := "facet/facetlaw03.OpCompares", spec := "opCompares", unfollowed := true, recurses := true, apart := false }
def OpComparesSaid : Prop := opComparesRow.holds Try.pinned (OpenSpec.ofChange opComparesSpec)

/-- ITS FALSE NEIGHBOUR: 'it returns false'. Refute it at one input. -/
def opComparesWrong : ChangeSpec := { name := "opCompares", fn := fun _ => fun
  | [d1, d2, d3] => { results := [.lit (.bool false)], args := [d1, d2, d3] }
  | _ => none }
def OpComparesWrongFalsely : Prop := opComparesRow.holds Try.pinned (OpenSpec.ofChange opComparesWrong)

/-- 'facetlaw03.OpPowers': WHATEVER THE INPUT: true; the input reads as it did. -/
def opPowersSpec : ChangeSpec := { name := "opPowers", fn := fun _ => fun
  | [d1, d2] => { results := [.lit (.bool true)], args := [d1, d2] }
  | _ => none }
def opPowersRow : OpenClaim := { program := "ythljaepanhdmiaa", sum := "d2b050d9a887eb8bc90f52e7bd23046764cedbe33e224826ce87ae120cdbba1c", func := "facet/facetlaw03.OpPowers", spec := "opPowers", unfollowed := true, recurses := true, apart := false }
def OpPowersSaid : Prop := opPowersRow.holds Try.pinned (OpenSpec.ofChange opPowersSpec)

/-- ITS FALSE NEIGHBOUR: 'it returns false'. Refute it at one input. -/
def opPowersWrong : ChangeSpec := { name := "opPowers", fn := fun _ => fun
  | [d1, d2] => { results := [.lit (.bool false)], args := [d1, d2] }
  | _ => none }
def OpPowersWrongFalsely : Prop := opPowersRow.holds Try.pinned (OpenSpec.ofChange opPowersWrong)

/-- 'facetlaw03.OpApplies': WHATEVER THE INPUT: true; the input reads as it did. -/
def opAppliesSpec : ChangeSpec := { name := "opApplies", fn := fun _ => fun
  | [d1, d2] => { results := [.lit (.bool true)], args := [d1, d2] }
  | _ => none }
def opAppliesRow : OpenClaim := { program := "ythljaepanhdmiaa", sum := "d2b050d9a887eb8bc90f52e7bd23046764cedbe33e224826ce87ae120cdbba1c", func := "facet/facetlaw03.OpApplies", spec := "opApplies", unfollowed := true, recurses := true, apart := false }
def OpAppliesSaid : Prop := opAppliesRow.holds Try.pinned (OpenSpec.ofChange opAppliesSpec)

/-- ITS FALSE NEIGHBOUR: 'it returns false'. Refute it at one input. -/
def opAppliesWrong : ChangeSpec := { name := "opApplies", fn := fun _ => fun
  | [d1, d2] => { results := [.lit (.bool false)], args := [d1, d2] }
  | _ => none }
def OpAppliesWrongFalsely : Prop := opAppliesRow.holds Try.pinned (OpenSpec.ofChange opAppliesWrong)

/-- 'facetlaw03.OpGroups': WHATEVER THE INPUT: true; the input reads as it did. -/
def opGroupsSpec : ChangeSpec := { name := "opGroups", fn := fun _ => fun
  | [d1, d2, d3, d4] => { results := [.lit (.bool true)], args := [d1, d2, d3, d4] }
  | _ => none }
def opGroupsRow : OpenClaim := { program := "ythljaepanhdmiaa", sum := "d2b050d9a887eb8bc90f52e7bd23046764cedbe33e224826ce87ae120cdbba1c", func := "facet/facetlaw03.OpGroups", spec := "opGroups", unfollowed := true, recurses := true, apart := false }
def OpGroupsSaid : Prop := opGroupsRow.holds Try.pinned (OpenSpec.ofChange opGroupsSpec)

/-- ITS FALSE NEIGHBOUR: 'it returns false'. Refute it at one input. -/
def opGroupsWrong : ChangeSpec := { name := "opGroups", fn := fun _ => fun
  | [d1, d2, d3, d4] => { results := [.lit (.bool false)], args := [d1, d2, d3, d4] }
  | _ => none }
def OpGroupsWrongFalsely : Prop := opGroupsRow.holds Try.pinned (OpenSpec.ofChange opGroupsWrong)

/-- 'facetlaw03.OpFixed': WHATEVER THE INPUT: true; the input reads as it did. -/
def opFixedSpec : ChangeSpec := { name := "opFixed", fn := fun _ => fun
  | [] => { results := [.lit (.bool true)], args := [] }
  | _ => none }
def opFixedRow : OpenClaim := { program := "ythljaepanhdmiaa", sum := "d2b050d9a887eb8bc90f52e7bd23046764cedbe33e224826ce87ae120cdbba1c", func := "facet/facetlaw03.OpFixed", spec := "opFixed", unfollowed := true, recurses := true, apart := false }
def OpFixedSaid : Prop := opFixedRow.holds Try.pinned (OpenSpec.ofChange opFixedSpec)

/-- ITS FALSE NEIGHBOUR: 'it returns false'. Refute it at one input. -/
def opFixedWrong : ChangeSpec := { name := "opFixed", fn := fun _ => fun
  | [] => { results := [.lit (.bool false)], args := [] }
  | _ => none }
def OpFixedWrongFalsely : Prop := opFixedRow.holds Try.pinned (OpenSpec.ofChange opFixedWrong)

/- THE SECOND FORM. 'bulk': how many values and letters a reading holds, each counted each time it is reached (what is shared counts as often as it is met; a slice's spare places count too). A statement '..UptoSaid' is the law's where the arguments, and the package variables that the reading takes, are together of bulk at most 1048576: NARROWER than '..Said'. Prove '..Said' where nothing that the law and all that it calls make is longer than what came in: it says more and counts as full. Else prove '..UptoSaid'. A law counts once. -/
mutual
def uptoBulk {H : Type} : DataW H → Nat
  | .lit (.string bytes) => bytes.length + 1
  | .lit _ => 1
  | .nil => 1
  | .ptr d => uptoBulk d + 1
  | .slice elems spare => uptoBulkAll elems + uptoBulkAll spare + 1
  | .agg parts => uptoBulkAll parts + 1
  | .iface _ d => uptoBulk d + 1
  | .map entries => uptoBulkEntries entries + 1
  | .held _ => 1
def uptoBulkAll {H : Type} : List (DataW H) → Nat
  | [] => 0
  | d :: r => uptoBulk d + uptoBulkAll r
def uptoBulkEntries {H : Type} : List (Lit × DataW H) → Nat
  | [] => 0
  | x :: r => uptoBulkEntry x + uptoBulkEntries r
def uptoBulkEntry {H : Type} : Lit × DataW H → Nat
  | (.string bytes, d) => bytes.length + uptoBulk d + 1
  | (_, d) => uptoBulk d + 1
 end
def uptoSmall : (H : Type) → List (DataW H) → Bool := fun _ ds => decide (uptoBulkAll ds ≤ 1048576)
def OpenSpec.upto (s : _root_.Go.ChangeSpec) : _root_.Go.OpenSpec := { _root_.Go.OpenSpec.ofChange s with cond := some uptoSmall }

/-- 'facetlaw03.OpOrders', WHERE WHAT IT READS IS OF BULK AT MOST 1048576: true; the input reads as it did. -/
def opOrdersUptoRow : OpenClaim := { program := "ythljaepanhdmiaa", sum := "d2b050d9a887eb8bc90f52e7bd23046764cedbe33e224826ce87ae120cdbba1c", func := "facet/facetlaw03.OpOrders", spec := "opOrders", unfollowed := true, recurses := true, apart := false, narrowed := true }
def OpOrdersUptoSaid : Prop := opOrdersUptoRow.holds Try.pinned (OpenSpec.upto opOrdersSpec)

/-- 'facetlaw03.OpMakes', WHERE WHAT IT READS IS OF BULK AT MOST 1048576: true; the input reads as it did. -/
def opMakesUptoRow : OpenClaim := { program := "ythljaepanhdmiaa", sum := "d2b050d9a887eb8bc90f52e7bd23046764cedbe33e224826ce87ae120cdbba1c", func := "facet/facetlaw03.OpMakes", spec := "opMakes", unfollowed := true, recurses := true, apart := false, narrowed := true }
def OpMakesUptoSaid : Prop := opMakesUptoRow.holds Try.pinned (OpenSpec.upto opMakesSpec)

/-- 'facetlaw03.OpMuls', WHERE WHAT IT READS IS OF BULK AT MOST 1048576: true; the input reads as it did. -/
def opMulsUptoRow : OpenClaim := { program := "ythljaepanhdmiaa", sum := "d2b050d9a887eb8bc90f52e7bd23046764cedbe33e224826ce87ae120cdbba1c", func := "facet/facetlaw03.OpMuls", spec := "opMuls", unfollowed := true, recurses := true, apart := false, narrowed := true }
def OpMulsUptoSaid : Prop := opMulsUptoRow.holds Try.pinned (OpenSpec.upto opMulsSpec)

/-- 'facetlaw03.OpTurns', WHERE WHAT IT READS IS OF BULK AT MOST 1048576: true; the input reads as it did. -/
def opTurnsUptoRow : OpenClaim := { program := "ythljaepanhdmiaa", sum := "d2b050d9a887eb8bc90f52e7bd23046764cedbe33e224826ce87ae120cdbba1c", func := "facet/facetlaw03.OpTurns", spec := "opTurns", unfollowed := true, recurses := true, apart := false, narrowed := true }
def OpTurnsUptoSaid : Prop := opTurnsUptoRow.holds Try.pinned (OpenSpec.upto opTurnsSpec)

/-- 'facetlaw03.OpCompares', WHERE WHAT IT READS IS OF BULK AT MOST 1048576: true; the input reads as it did. -/
def opComparesUptoRow : OpenClaim := { program := "ythljaepanhdmiaa", sum := "d2b050d9a887eb8bc90f52e7bd23046764cedbe33e224826ce87ae120cdbba1c", func := "facet/facetlaw03.OpCompares", spec := "opCompares", unfollowed := true, recurses := true, apart := false, narrowed := true }
def OpComparesUptoSaid : Prop := opComparesUptoRow.holds Try.pinned (OpenSpec.upto opComparesSpec)

/-- 'facetlaw03.OpPowers', WHERE WHAT IT READS IS OF BULK AT MOST 1048576: true; the input reads as it did. -/
def opPowersUptoRow : OpenClaim := { program := "ythljaepanhdmiaa", sum := "d2b050d9a887eb8bc90f52e7bd23046764cedbe33e224826ce87ae120cdbba1c", func := "facet/facetlaw03.OpPowers", spec := "opPowers", unfollowed := true, recurses := true, apart := false, narrowed := true }
def OpPowersUptoSaid : Prop := opPowersUptoRow.holds Try.pinned (OpenSpec.upto opPowersSpec)

/-- 'facetlaw03.OpApplies', WHERE WHAT IT READS IS OF BULK AT MOST 1048576: true; the input reads as it did. -/
def opAppliesUptoRow : OpenClaim := { program := "ythljaepanhdmiaa", sum := "d2b050d9a887eb8bc90f52e7bd23046764cedbe33e224826ce87ae120cdbba1c", func := "facet/facetlaw03.OpApplies", spec := "opApplies", unfollowed := true, recurses := true, apart := false, narrowed := true }
def OpAppliesUptoSaid : Prop := opAppliesUptoRow.holds Try.pinned (OpenSpec.upto opAppliesSpec)

/-- 'facetlaw03.OpGroups', WHERE WHAT IT READS IS OF BULK AT MOST 1048576: true; the input reads as it did. -/
def opGroupsUptoRow : OpenClaim := { program := "ythljaepanhdmiaa", sum := "d2b050d9a887eb8bc90f52e7bd23046764cedbe33e224826ce87ae120cdbba1c", func := "facet/facetlaw03.OpGroups", spec := "opGroups", unfollowed := true, recurses := true, apart := false, narrowed := true }
def OpGroupsUptoSaid : Prop := opGroupsUptoRow.holds Try.pinned (OpenSpec.upto opGroupsSpec)

/-- 'facetlaw03.OpFixed', WHERE WHAT IT READS IS OF BULK AT MOST 1048576: true; the input reads as it did. -/
def opFixedUptoRow : OpenClaim := { program := "ythljaepanhdmiaa", sum := "d2b050d9a887eb8bc90f52e7bd23046764cedbe33e224826ce87ae120cdbba1c", func := "facet/facetlaw03.OpFixed", spec := "opFixed", unfollowed := true, recurses := true, apart := false, narrowed := true }
def OpFixedUptoSaid : Prop := opFixedUptoRow.holds Try.pinned (OpenSpec.upto opFixedSpec)

end Rows
end Go.Proofs.Ythljaepanhdmiaa
