/-
  No cell of these rows narrows 'for every input' (looked for: loops, veiled, ifaces, maps, wideKeys, modest, calm, conditions, laid).
  DERIVED. THE GIVEN ROWS OF THIS SEAT. 10 by the template 'for every input the law returns true; each argument reads behind the call as it read before'; 0 by the template 'total and deterministic' (their statements: YtolbgdfbdlddaaaTotals.lean).
  GIVEN WITH THE SEED: the statements are not yours to turn. If you find one false, say at which input.
  Laid BY PROGRAM, IN A SANDBOX (cutbox-rows.mjs): the forced cells as the released guide's own fill.sh prints them over the translation 2e9f7776118897ce… (all of the seat's roots in one cut). By AI agents, Wed Nov 11 2026. No macro, syntax, notation, axiom, sorry.
-/
import Derived.Test.YtolbgdfbdlddaaaChecked
import GoSem.Claim
import GoSem.ClaimJoined
import GoSem.ClaimMapViews
import Derived.JoinedTies
import Derived.KernelRfl
namespace Go.Proofs.Ytolbgdfbdlddaaa
/- THE CELL 'sum', in the pinned program and in every row, IS THE sha256 OF THE DUMP (.gsa) THAT YtolbgdfbdlddaaaProg.lean LOADS. Nothing in Lean hashes anything: it is a label: what it is worth is what the hold of that sum in a sandbox is worth. -/
noncomputable def Try.pinned : Pinned := { name := "ytolbgdfbdlddaaa", sum := "2e9f7776118897cee1ac2315ef51398200474e9dbc20f2aef86f29635d2b1ab1", checked := Try.checked }
namespace Rows
def none {H : Type} : Left H := { results := [], args := [] }

/-- 'facetlaw10.UnitFits': WHATEVER THE INPUT: true; the input reads as it did. -/
def unitFitsSpec : ChangeSpec := { name := "unitFits", fn := fun _ => fun
  | [d1, d2] => { results := [.lit (.bool true)], args := [d1, d2] }
  | _ => none }
def unitFitsRow : OpenClaim := { program := "ytolbgdfbdlddaaa", sum := "2e9f7776118897cee1ac2315ef51398200474e9dbc20f2aef86f29635d2b1ab1", func := "facet/facetlaw10.UnitFits", spec := "unitFits", unfollowed := true, recurses := true, plainKeys := false, apart := false }
def UnitFitsSaid : Prop := unitFitsRow.holds Try.pinned (OpenSpec.ofChange unitFitsSpec)

/-- ITS FALSE NEIGHBOUR: 'it returns false'. Refute it at one input. -/
def unitFitsWrong : ChangeSpec := { name := "unitFits", fn := fun _ => fun
  | [d1, d2] => { results := [.lit (.bool false)], args := [d1, d2] }
  | _ => none }
def UnitFitsWrongFalsely : Prop := unitFitsRow.holds Try.pinned (OpenSpec.ofChange unitFitsWrong)

/-- 'facetlaw10.UnitMoves': WHATEVER THE INPUT: true; the input reads as it did. -/
def unitMovesSpec : ChangeSpec := { name := "unitMoves", fn := fun _ => fun
  | [d1, d2, d3] => { results := [.lit (.bool true)], args := [d1, d2, d3] }
  | _ => none }
def unitMovesRow : OpenClaim := { program := "ytolbgdfbdlddaaa", sum := "2e9f7776118897cee1ac2315ef51398200474e9dbc20f2aef86f29635d2b1ab1", func := "facet/facetlaw10.UnitMoves", spec := "unitMoves", unfollowed := true, recurses := true, plainKeys := false, apart := false }
def UnitMovesSaid : Prop := unitMovesRow.holds Try.pinned (OpenSpec.ofChange unitMovesSpec)

/-- ITS FALSE NEIGHBOUR: 'it returns false'. Refute it at one input. -/
def unitMovesWrong : ChangeSpec := { name := "unitMoves", fn := fun _ => fun
  | [d1, d2, d3] => { results := [.lit (.bool false)], args := [d1, d2, d3] }
  | _ => none }
def UnitMovesWrongFalsely : Prop := unitMovesRow.holds Try.pinned (OpenSpec.ofChange unitMovesWrong)

/-- 'facetlaw10.UnitOwns': WHATEVER THE INPUT: true; the input reads as it did. -/
def unitOwnsSpec : ChangeSpec := { name := "unitOwns", fn := fun _ => fun
  | [d1, d2] => { results := [.lit (.bool true)], args := [d1, d2] }
  | _ => none }
def unitOwnsRow : OpenClaim := { program := "ytolbgdfbdlddaaa", sum := "2e9f7776118897cee1ac2315ef51398200474e9dbc20f2aef86f29635d2b1ab1", func := "facet/facetlaw10.UnitOwns", spec := "unitOwns", unfollowed := true, recurses := true, plainKeys := false, apart := false }
def UnitOwnsSaid : Prop := unitOwnsRow.holds Try.pinned (OpenSpec.ofChange unitOwnsSpec)

/-- ITS FALSE NEIGHBOUR: 'it returns false'. Refute it at one input. -/
def unitOwnsWrong : ChangeSpec := { name := "unitOwns", fn := fun _ => fun
  | [d1, d2] => { results := [.lit (.bool false)], args := [d1, d2] }
  | _ => none }
def UnitOwnsWrongFalsely : Prop := unitOwnsRow.holds Try.pinned (OpenSpec.ofChange unitOwnsWrong)

/-- 'facetlaw10.UnitCounts': WHATEVER THE INPUT: true; the input reads as it did. -/
def unitCountsSpec : ChangeSpec := { name := "unitCounts", fn := fun _ => fun
  | [d1, d2] => { results := [.lit (.bool true)], args := [d1, d2] }
  | _ => none }
def unitCountsRow : OpenClaim := { program := "ytolbgdfbdlddaaa", sum := "2e9f7776118897cee1ac2315ef51398200474e9dbc20f2aef86f29635d2b1ab1", func := "facet/facetlaw10.UnitCounts", spec := "unitCounts", unfollowed := true, recurses := true, plainKeys := false, apart := false }
def UnitCountsSaid : Prop := unitCountsRow.holds Try.pinned (OpenSpec.ofChange unitCountsSpec)

/-- ITS FALSE NEIGHBOUR: 'it returns false'. Refute it at one input. -/
def unitCountsWrong : ChangeSpec := { name := "unitCounts", fn := fun _ => fun
  | [d1, d2] => { results := [.lit (.bool false)], args := [d1, d2] }
  | _ => none }
def UnitCountsWrongFalsely : Prop := unitCountsRow.holds Try.pinned (OpenSpec.ofChange unitCountsWrong)

/-- 'facetlaw10.UnitFirsts': WHATEVER THE INPUT: true; the input reads as it did. -/
def unitFirstsSpec : ChangeSpec := { name := "unitFirsts", fn := fun _ => fun
  | [d1, d2] => { results := [.lit (.bool true)], args := [d1, d2] }
  | _ => none }
def unitFirstsRow : OpenClaim := { program := "ytolbgdfbdlddaaa", sum := "2e9f7776118897cee1ac2315ef51398200474e9dbc20f2aef86f29635d2b1ab1", func := "facet/facetlaw10.UnitFirsts", spec := "unitFirsts", unfollowed := true, recurses := true, plainKeys := false, apart := false }
def UnitFirstsSaid : Prop := unitFirstsRow.holds Try.pinned (OpenSpec.ofChange unitFirstsSpec)

/-- ITS FALSE NEIGHBOUR: 'it returns false'. Refute it at one input. -/
def unitFirstsWrong : ChangeSpec := { name := "unitFirsts", fn := fun _ => fun
  | [d1, d2] => { results := [.lit (.bool false)], args := [d1, d2] }
  | _ => none }
def UnitFirstsWrongFalsely : Prop := unitFirstsRow.holds Try.pinned (OpenSpec.ofChange unitFirstsWrong)

/-- 'facetlaw10.UnitMemory': WHATEVER THE INPUT: true; the input reads as it did. -/
def unitMemorySpec : ChangeSpec := { name := "unitMemory", fn := fun _ => fun
  | [d1, d2] => { results := [.lit (.bool true)], args := [d1, d2] }
  | _ => none }
def unitMemoryRow : OpenClaim := { program := "ytolbgdfbdlddaaa", sum := "2e9f7776118897cee1ac2315ef51398200474e9dbc20f2aef86f29635d2b1ab1", func := "facet/facetlaw10.UnitMemory", spec := "unitMemory", unfollowed := true, recurses := true, plainKeys := false, apart := false }
def UnitMemorySaid : Prop := unitMemoryRow.holds Try.pinned (OpenSpec.ofChange unitMemorySpec)

/-- ITS FALSE NEIGHBOUR: 'it returns false'. Refute it at one input. -/
def unitMemoryWrong : ChangeSpec := { name := "unitMemory", fn := fun _ => fun
  | [d1, d2] => { results := [.lit (.bool false)], args := [d1, d2] }
  | _ => none }
def UnitMemoryWrongFalsely : Prop := unitMemoryRow.holds Try.pinned (OpenSpec.ofChange unitMemoryWrong)

/-- 'facetlaw10.UnitActs': WHATEVER THE INPUT: true; the input reads as it did. -/
def unitActsSpec : ChangeSpec := { name := "unitActs", fn := fun _ => fun
  | [d1, d2, d3, d4] => { results := [.lit (.bool true)], args := [d1, d2, d3, d4] }
  | _ => none }
def unitActsRow : OpenClaim := { program := "ytolbgdfbdlddaaa", sum := "2e9f7776118897cee1ac2315ef51398200474e9dbc20f2aef86f29635d2b1ab1", func := "facet/facetlaw10.UnitActs", spec := "unitActs", unfollowed := true, recurses := true, plainKeys := false, apart := false }
def UnitActsSaid : Prop := unitActsRow.holds Try.pinned (OpenSpec.ofChange unitActsSpec)

/-- ITS FALSE NEIGHBOUR: 'it returns false'. Refute it at one input. -/
def unitActsWrong : ChangeSpec := { name := "unitActs", fn := fun _ => fun
  | [d1, d2, d3, d4] => { results := [.lit (.bool false)], args := [d1, d2, d3, d4] }
  | _ => none }
def UnitActsWrongFalsely : Prop := unitActsRow.holds Try.pinned (OpenSpec.ofChange unitActsWrong)

/-- 'facetlaw10.UnitFixed': WHATEVER THE INPUT: true; the input reads as it did. -/
def unitFixedSpec : ChangeSpec := { name := "unitFixed", fn := fun _ => fun
  | [] => { results := [.lit (.bool true)], args := [] }
  | _ => none }
def unitFixedRow : OpenClaim := { program := "ytolbgdfbdlddaaa", sum := "2e9f7776118897cee1ac2315ef51398200474e9dbc20f2aef86f29635d2b1ab1", func := "facet/facetlaw10.UnitFixed", spec := "unitFixed", unfollowed := true, recurses := true, plainKeys := false, apart := false }
def UnitFixedSaid : Prop := unitFixedRow.holds Try.pinned (OpenSpec.ofChange unitFixedSpec)

/-- ITS FALSE NEIGHBOUR: 'it returns false'. Refute it at one input. -/
def unitFixedWrong : ChangeSpec := { name := "unitFixed", fn := fun _ => fun
  | [] => { results := [.lit (.bool false)], args := [] }
  | _ => none }
def UnitFixedWrongFalsely : Prop := unitFixedRow.holds Try.pinned (OpenSpec.ofChange unitFixedWrong)

/-- 'facetlaw10.UnitPoints': WHATEVER THE INPUT: true; the input reads as it did. -/
def unitPointsSpec : ChangeSpec := { name := "unitPoints", fn := fun _ => fun
  | [d1, d2, d3] => { results := [.lit (.bool true)], args := [d1, d2, d3] }
  | _ => none }
def unitPointsRow : OpenClaim := { program := "ytolbgdfbdlddaaa", sum := "2e9f7776118897cee1ac2315ef51398200474e9dbc20f2aef86f29635d2b1ab1", func := "facet/facetlaw10.UnitPoints", spec := "unitPoints", unfollowed := true, recurses := true, plainKeys := false, apart := false }
def UnitPointsSaid : Prop := unitPointsRow.holds Try.pinned (OpenSpec.ofChange unitPointsSpec)

/-- ITS FALSE NEIGHBOUR: 'it returns false'. Refute it at one input. -/
def unitPointsWrong : ChangeSpec := { name := "unitPoints", fn := fun _ => fun
  | [d1, d2, d3] => { results := [.lit (.bool false)], args := [d1, d2, d3] }
  | _ => none }
def UnitPointsWrongFalsely : Prop := unitPointsRow.holds Try.pinned (OpenSpec.ofChange unitPointsWrong)

/-- 'facettop.WholeUnits': WHATEVER THE INPUT: true; the input reads as it did. -/
def wholeUnitsSpec : ChangeSpec := { name := "wholeUnits", fn := fun _ => fun
  | [d1, d2, d3] => { results := [.lit (.bool true)], args := [d1, d2, d3] }
  | _ => none }
def wholeUnitsRow : OpenClaim := { program := "ytolbgdfbdlddaaa", sum := "2e9f7776118897cee1ac2315ef51398200474e9dbc20f2aef86f29635d2b1ab1", func := "facet/facettop.WholeUnits", spec := "wholeUnits", unfollowed := true, recurses := true, plainKeys := false, apart := false }
def WholeUnitsSaid : Prop := wholeUnitsRow.holds Try.pinned (OpenSpec.ofChange wholeUnitsSpec)

/-- ITS FALSE NEIGHBOUR: 'it returns false'. Refute it at one input. -/
def wholeUnitsWrong : ChangeSpec := { name := "wholeUnits", fn := fun _ => fun
  | [d1, d2, d3] => { results := [.lit (.bool false)], args := [d1, d2, d3] }
  | _ => none }
def WholeUnitsWrongFalsely : Prop := wholeUnitsRow.holds Try.pinned (OpenSpec.ofChange wholeUnitsWrong)

/- THE SECOND FORM. 'bulk': how many values and letters a reading holds, each counted each time it is reached (what is shared counts as often as it is met; a slice's spare places count too). A statement '..UptoSaid' is the law's where the arguments, and the package variables that the reading takes, are together of bulk at most 1048576: NARROWER than '..Said'. Prove '..Said' where nothing that the law and all that it calls make is longer than what came in: it says more and counts as full. Else prove '..UptoSaid'. A law counts once. -/
mutual
def uptoBulk {H : Type} : DataW H → Nat
  | .lit (.string bytes) => bytes.length + 1
  | .lit _ => 1
  | .nil => 1
  | .ptr d => uptoBulk d + 1
  | .slice elems spare => uptoBulkAll elems + uptoBulkAll spare + 1
  | .agg parts => uptoBulkAll parts + 1
  | .iface _ d => uptoBulk d + 1
  | .map entries => uptoBulkEntries entries + 1
  | .held _ => 1
def uptoBulkAll {H : Type} : List (DataW H) → Nat
  | [] => 0
  | d :: r => uptoBulk d + uptoBulkAll r
def uptoBulkEntries {H : Type} : List (Lit × DataW H) → Nat
  | [] => 0
  | x :: r => uptoBulkEntry x + uptoBulkEntries r
def uptoBulkEntry {H : Type} : Lit × DataW H → Nat
  | (.string bytes, d) => bytes.length + uptoBulk d + 1
  | (_, d) => uptoBulk d + 1
 end
def uptoSmall : (H : Type) → List (DataW H) → Bool := fun _ ds => decide (uptoBulkAll ds ≤ 1048576)
def OpenSpec.upto (s : _root_.Go.ChangeSpec) : _root_.Go.OpenSpec := { _root_.Go.OpenSpec.ofChange s with cond := some uptoSmall }

/-- 'facetlaw10.UnitFits', WHERE WHAT IT READS IS OF BULK AT MOST 1048576: true; the input reads as it did. -/
def unitFitsUptoRow : OpenClaim := { program := "ytolbgdfbdlddaaa", sum := "2e9f7776118897cee1ac2315ef51398200474e9dbc20f2aef86f29635d2b1ab1", func := "facet/facetlaw10.UnitFits", spec := "unitFits", unfollowed := true, recurses := true, plainKeys := false, apart := false, narrowed := true }
def UnitFitsUptoSaid : Prop := unitFitsUptoRow.holds Try.pinned (OpenSpec.upto unitFitsSpec)

/-- 'facetlaw10.UnitMoves', WHERE WHAT IT READS IS OF BULK AT MOST 1048576: true; the input reads as it did. -/
def unitMovesUptoRow : OpenClaim := { program := "ytolbgdfbdlddaaa", sum := "2e9f7776118897cee1ac2315ef51398200474e9dbc20f2aef86f29635d2b1ab1", func := "facet/facetlaw10.UnitMoves", spec := "unitMoves", unfollowed := true, recurses := true, plainKeys := false, apart := false, narrowed := true }
def UnitMovesUptoSaid : Prop := unitMovesUptoRow.holds Try.pinned (OpenSpec.upto unitMovesSpec)

/-- 'facetlaw10.UnitOwns', WHERE WHAT IT READS IS OF BULK AT MOST 1048576: true; the input reads as it did. -/
def unitOwnsUptoRow : OpenClaim := { program := "ytolbgdfbdlddaaa", sum := "2e9f7776118897cee1ac2315ef51398200474e9dbc20f2aef86f29635d2b1ab1", func := "facet/facetlaw10.UnitOwns", spec := "unitOwns", unfollowed := true, recurses := true, plainKeys := false, apart := false, narrowed := true }
def UnitOwnsUptoSaid : Prop := unitOwnsUptoRow.holds Try.pinned (OpenSpec.upto unitOwnsSpec)

/-- 'facetlaw10.UnitCounts', WHERE WHAT IT READS IS OF BULK AT MOST 1048576: true; the input reads as it did. -/
def unitCountsUptoRow : OpenClaim := { program := "ytolbgdfbdlddaaa", sum := "2e9f7776118897cee1ac2315ef51398200474e9dbc20f2aef86f29635d2b1ab1", func := "facet/facetlaw10.UnitCounts", spec := "unitCounts", unfollowed := true, recurses := true, plainKeys := false, apart := false, narrowed := true }
def UnitCountsUptoSaid : Prop := unitCountsUptoRow.holds Try.pinned (OpenSpec.upto unitCountsSpec)

/-- 'facetlaw10.UnitFirsts', WHERE WHAT IT READS IS OF BULK AT MOST 1048576: true; the input reads as it did. -/
def unitFirstsUptoRow : OpenClaim := { program := "ytolbgdfbdlddaaa", sum := "2e9f7776118897cee1ac2315ef51398200474e9dbc20f2aef86f29635d2b1ab1", func := "facet/facetlaw10.UnitFirsts", spec := "unitFirsts", unfollowed := true, recurses := true, plainKeys := false, apart := false, narrowed := true }
def UnitFirstsUptoSaid : Prop := unitFirstsUptoRow.holds Try.pinned (OpenSpec.upto unitFirstsSpec)

/-- 'facetlaw10.UnitMemory', WHERE WHAT IT READS IS OF BULK AT MOST 1048576: true; the input reads as it did. -/
def unitMemoryUptoRow : OpenClaim := { program := "ytolbgdfbdlddaaa", sum := "2e9f7776118897cee1ac2315ef51398200474e9dbc20f2aef86f29635d2b1ab1", func := "facet/facetlaw10.UnitMemory", spec := "unitMemory", unfollowed := true, recurses := true, plainKeys := false, apart := false, narrowed := true }
def UnitMemoryUptoSaid : Prop := unitMemoryUptoRow.holds Try.pinned (OpenSpec.upto unitMemorySpec)

/-- 'facetlaw10.UnitActs', WHERE WHAT IT READS IS OF BULK AT MOST 1048576: true; the input reads as it did. -/
def unitActsUptoRow : OpenClaim := { program := "ytolbgdfbdlddaaa", sum := "2e9f7776118897cee1ac2315ef51398200474e9dbc20f2aef86f29635d2b1ab1", func := "facet/facetlaw10.UnitActs", spec := "unitActs", unfollowed := true, recurses := true, plainKeys := false, apart := false, narrowed := true }
def UnitActsUptoSaid : Prop := unitActsUptoRow.holds Try.pinned (OpenSpec.upto unitActsSpec)

/-- 'facetlaw10.UnitFixed', WHERE WHAT IT READS IS OF BULK AT MOST 1048576: true; the input reads as it did. -/
def unitFixedUptoRow : OpenClaim := { program := "ytolbgdfbdlddaaa", sum := "2e9f7776118897cee1ac2315ef51398200474e9dbc20f2aef86f29635d2b1ab1", func := "facet/facetlaw10.UnitFixed", spec := "unitFixed", unfollowed := true, recurses := true, plainKeys := false, apart := false, narrowed := true }
def UnitFixedUptoSaid : Prop := unitFixedUptoRow.holds Try.pinned (OpenSpec.upto unitFixedSpec)

/-- 'facetlaw10.UnitPoints', WHERE WHAT IT READS IS OF BULK AT MOST 1048576: true; the input reads as it did. -/
def unitPointsUptoRow : OpenClaim := { program := "ytolbgdfbdlddaaa", sum := "2e9f7776118897cee1ac2315ef51398200474e9dbc20f2aef86f29635d2b1ab1", func := "facet/facetlaw10.UnitPoints", spec := "unitPoints", unfollowed := true, recurses := true, plainKeys := false, apart := false, narrowed := true }
def UnitPointsUptoSaid : Prop := unitPointsUptoRow.holds Try.pinned (OpenSpec.upto unitPointsSpec)

/-- 'facettop.WholeUnits', WHERE WHAT IT READS IS OF BULK AT MOST 1048576: true; the input reads as it did. -/
def wholeUnitsUptoRow : OpenClaim := { program := "ytolbgdfbdlddaaa", sum := "2e9f7776118897cee1ac2315ef51398200474e9dbc20f2aef86f29635d2b1ab1", func := "facet/facettop.WholeUnits", spec := "wholeUnits", unfollowed := true, recurses := true, plainKeys := false, apart := false, narrowed := true }
def WholeUnitsUptoSaid : Prop := wholeUnitsUptoRow.holds Try.pinned (OpenSpec.upto wholeUnitsSpec)

end Rows
end Go.Proofs.Ytolbgdfbdlddaaa
