/-
  No cell of these rows narrows 'for every input' (looked for: loops, veiled, ifaces, maps, wideKeys, modest, calm, conditions, laid).
  DERIVED. THE GIVEN ROWS OF THIS SEAT. 7 by the template 'for every input the law returns true; each argument reads behind the call as it read before'; 0 by the template 'total and deterministic' (their statements: YtkcoohpammhnhaaTotals.lean).
  GIVEN WITH THE SEED: the statements are not yours to turn. If you find one false, say at which input.
  Laid BY PROGRAM, IN A SANDBOX (cutbox-rows.mjs): the forced cells as the released guide's own fill.sh prints them over the translation 99a3a9c7b78e7efd… (all of the seat's roots in one cut). By AI agents, Wed Nov 11 2026. No macro, syntax, notation, axiom, sorry.
-/
import Derived.Test.YtkcoohpammhnhaaChecked
import GoSem.Claim
import GoSem.ClaimJoined
import GoSem.ClaimMapViews
import Derived.JoinedTies
import Derived.KernelRfl
namespace Go.Proofs.Ytkcoohpammhnhaa
/- THE CELL 'sum', in the pinned program and in every row, IS THE sha256 OF THE DUMP (.gsa) THAT YtkcoohpammhnhaaProg.lean LOADS. Nothing in Lean hashes anything: it is a label: what it is worth is what the hold of that sum in a sandbox is worth. -/
noncomputable def Try.pinned : Pinned := { name := "ytkcoohpammhnhaa", sum := "99a3a9c7b78e7efdd71f0374218315f6a6a67568f6731edf472090830d6abc11", checked := Try.checked }
namespace Rows
def none {H : Type} : Left H := { results := [], args := [] }

/-- 'facetlaw09.OrbitOfs': WHATEVER THE INPUT: true; the input reads as it did. -/
def orbitOfsSpec : ChangeSpec := { name := "orbitOfs", fn := fun _ => fun
  | [d1, d2] => { results := [.lit (.bool true)], args := [d1, d2] }
  | _ => none }
def orbitOfsRow : OpenClaim := { program := "ytkcoohpammhnhaa", sum := "99a3a9c7b78e7efdd71f0374218315f6a6a67568f6731edf472090830d6abc11", func := "facet/facetlaw09.OrbitOfs", spec := "orbitOfs", unfollowed := true, recurses := true, plainKeys := false, apart := false }
def OrbitOfsSaid : Prop := orbitOfsRow.holds Try.pinned (OpenSpec.ofChange orbitOfsSpec)

/-- ITS FALSE NEIGHBOUR: 'it returns false'. Refute it at one input. -/
def orbitOfsWrong : ChangeSpec := { name := "orbitOfs", fn := fun _ => fun
  | [d1, d2] => { results := [.lit (.bool false)], args := [d1, d2] }
  | _ => none }
def OrbitOfsWrongFalsely : Prop := orbitOfsRow.holds Try.pinned (OpenSpec.ofChange orbitOfsWrong)

/-- 'facetlaw09.OrbitFirsts': WHATEVER THE INPUT: true; the input reads as it did. -/
def orbitFirstsSpec : ChangeSpec := { name := "orbitFirsts", fn := fun _ => fun
  | [d1, d2, d3] => { results := [.lit (.bool true)], args := [d1, d2, d3] }
  | _ => none }
def orbitFirstsRow : OpenClaim := { program := "ytkcoohpammhnhaa", sum := "99a3a9c7b78e7efdd71f0374218315f6a6a67568f6731edf472090830d6abc11", func := "facet/facetlaw09.OrbitFirsts", spec := "orbitFirsts", unfollowed := true, recurses := true, plainKeys := false, apart := false }
def OrbitFirstsSaid : Prop := orbitFirstsRow.holds Try.pinned (OpenSpec.ofChange orbitFirstsSpec)

/-- ITS FALSE NEIGHBOUR: 'it returns false'. Refute it at one input. -/
def orbitFirstsWrong : ChangeSpec := { name := "orbitFirsts", fn := fun _ => fun
  | [d1, d2, d3] => { results := [.lit (.bool false)], args := [d1, d2, d3] }
  | _ => none }
def OrbitFirstsWrongFalsely : Prop := orbitFirstsRow.holds Try.pinned (OpenSpec.ofChange orbitFirstsWrong)

/-- 'facetlaw09.OrbitKeeps': WHATEVER THE INPUT: true; the input reads as it did. -/
def orbitKeepsSpec : ChangeSpec := { name := "orbitKeeps", fn := fun _ => fun
  | [d1, d2] => { results := [.lit (.bool true)], args := [d1, d2] }
  | _ => none }
def orbitKeepsRow : OpenClaim := { program := "ytkcoohpammhnhaa", sum := "99a3a9c7b78e7efdd71f0374218315f6a6a67568f6731edf472090830d6abc11", func := "facet/facetlaw09.OrbitKeeps", spec := "orbitKeeps", unfollowed := true, recurses := true, plainKeys := false, apart := false }
def OrbitKeepsSaid : Prop := orbitKeepsRow.holds Try.pinned (OpenSpec.ofChange orbitKeepsSpec)

/-- ITS FALSE NEIGHBOUR: 'it returns false'. Refute it at one input. -/
def orbitKeepsWrong : ChangeSpec := { name := "orbitKeeps", fn := fun _ => fun
  | [d1, d2] => { results := [.lit (.bool false)], args := [d1, d2] }
  | _ => none }
def OrbitKeepsWrongFalsely : Prop := orbitKeepsRow.holds Try.pinned (OpenSpec.ofChange orbitKeepsWrong)

/-- 'facetlaw09.OrbitCounts': WHATEVER THE INPUT: true; the input reads as it did. -/
def orbitCountsSpec : ChangeSpec := { name := "orbitCounts", fn := fun _ => fun
  | [d1, d2] => { results := [.lit (.bool true)], args := [d1, d2] }
  | _ => none }
def orbitCountsRow : OpenClaim := { program := "ytkcoohpammhnhaa", sum := "99a3a9c7b78e7efdd71f0374218315f6a6a67568f6731edf472090830d6abc11", func := "facet/facetlaw09.OrbitCounts", spec := "orbitCounts", unfollowed := true, recurses := true, plainKeys := false, apart := false }
def OrbitCountsSaid : Prop := orbitCountsRow.holds Try.pinned (OpenSpec.ofChange orbitCountsSpec)

/-- ITS FALSE NEIGHBOUR: 'it returns false'. Refute it at one input. -/
def orbitCountsWrong : ChangeSpec := { name := "orbitCounts", fn := fun _ => fun
  | [d1, d2] => { results := [.lit (.bool false)], args := [d1, d2] }
  | _ => none }
def OrbitCountsWrongFalsely : Prop := orbitCountsRow.holds Try.pinned (OpenSpec.ofChange orbitCountsWrong)

/-- 'facetlaw09.OrbitMoves': WHATEVER THE INPUT: true; the input reads as it did. -/
def orbitMovesSpec : ChangeSpec := { name := "orbitMoves", fn := fun _ => fun
  | [d1, d2, d3] => { results := [.lit (.bool true)], args := [d1, d2, d3] }
  | _ => none }
def orbitMovesRow : OpenClaim := { program := "ytkcoohpammhnhaa", sum := "99a3a9c7b78e7efdd71f0374218315f6a6a67568f6731edf472090830d6abc11", func := "facet/facetlaw09.OrbitMoves", spec := "orbitMoves", unfollowed := true, recurses := true, plainKeys := false, apart := false }
def OrbitMovesSaid : Prop := orbitMovesRow.holds Try.pinned (OpenSpec.ofChange orbitMovesSpec)

/-- ITS FALSE NEIGHBOUR: 'it returns false'. Refute it at one input. -/
def orbitMovesWrong : ChangeSpec := { name := "orbitMoves", fn := fun _ => fun
  | [d1, d2, d3] => { results := [.lit (.bool false)], args := [d1, d2, d3] }
  | _ => none }
def OrbitMovesWrongFalsely : Prop := orbitMovesRow.holds Try.pinned (OpenSpec.ofChange orbitMovesWrong)

/-- 'facetlaw09.OrbitParts': WHATEVER THE INPUT: true; the input reads as it did. -/
def orbitPartsSpec : ChangeSpec := { name := "orbitParts", fn := fun _ => fun
  | [d1, d2, d3] => { results := [.lit (.bool true)], args := [d1, d2, d3] }
  | _ => none }
def orbitPartsRow : OpenClaim := { program := "ytkcoohpammhnhaa", sum := "99a3a9c7b78e7efdd71f0374218315f6a6a67568f6731edf472090830d6abc11", func := "facet/facetlaw09.OrbitParts", spec := "orbitParts", unfollowed := true, recurses := true, plainKeys := false, apart := false }
def OrbitPartsSaid : Prop := orbitPartsRow.holds Try.pinned (OpenSpec.ofChange orbitPartsSpec)

/-- ITS FALSE NEIGHBOUR: 'it returns false'. Refute it at one input. -/
def orbitPartsWrong : ChangeSpec := { name := "orbitParts", fn := fun _ => fun
  | [d1, d2, d3] => { results := [.lit (.bool false)], args := [d1, d2, d3] }
  | _ => none }
def OrbitPartsWrongFalsely : Prop := orbitPartsRow.holds Try.pinned (OpenSpec.ofChange orbitPartsWrong)

/-- 'facettop.WholeOrbits': WHATEVER THE INPUT: true; the input reads as it did. -/
def wholeOrbitsSpec : ChangeSpec := { name := "wholeOrbits", fn := fun _ => fun
  | [d1, d2, d3, d4] => { results := [.lit (.bool true)], args := [d1, d2, d3, d4] }
  | _ => none }
def wholeOrbitsRow : OpenClaim := { program := "ytkcoohpammhnhaa", sum := "99a3a9c7b78e7efdd71f0374218315f6a6a67568f6731edf472090830d6abc11", func := "facet/facettop.WholeOrbits", spec := "wholeOrbits", unfollowed := true, recurses := true, plainKeys := false, apart := false }
def WholeOrbitsSaid : Prop := wholeOrbitsRow.holds Try.pinned (OpenSpec.ofChange wholeOrbitsSpec)

/-- ITS FALSE NEIGHBOUR: 'it returns false'. Refute it at one input. -/
def wholeOrbitsWrong : ChangeSpec := { name := "wholeOrbits", fn := fun _ => fun
  | [d1, d2, d3, d4] => { results := [.lit (.bool false)], args := [d1, d2, d3, d4] }
  | _ => none }
def WholeOrbitsWrongFalsely : Prop := wholeOrbitsRow.holds Try.pinned (OpenSpec.ofChange wholeOrbitsWrong)

/- THE SECOND FORM. 'bulk': how many values and letters a reading holds, each counted each time it is reached (what is shared counts as often as it is met; a slice's spare places count too). A statement '..UptoSaid' is the law's where the arguments, and the package variables that the reading takes, are together of bulk at most 1048576: NARROWER than '..Said'. Prove '..Said' where nothing that the law and all that it calls make is longer than what came in: it says more and counts as full. Else prove '..UptoSaid'. A law counts once. -/
mutual
def uptoBulk {H : Type} : DataW H → Nat
  | .lit (.string bytes) => bytes.length + 1
  | .lit _ => 1
  | .nil => 1
  | .ptr d => uptoBulk d + 1
  | .slice elems spare => uptoBulkAll elems + uptoBulkAll spare + 1
  | .agg parts => uptoBulkAll parts + 1
  | .iface _ d => uptoBulk d + 1
  | .map entries => uptoBulkEntries entries + 1
  | .held _ => 1
def uptoBulkAll {H : Type} : List (DataW H) → Nat
  | [] => 0
  | d :: r => uptoBulk d + uptoBulkAll r
def uptoBulkEntries {H : Type} : List (Lit × DataW H) → Nat
  | [] => 0
  | x :: r => uptoBulkEntry x + uptoBulkEntries r
def uptoBulkEntry {H : Type} : Lit × DataW H → Nat
  | (.string bytes, d) => bytes.length + uptoBulk d + 1
  | (_, d) => uptoBulk d + 1
 end
def uptoSmall : (H : Type) → List (DataW H) → Bool := fun _ ds => decide (uptoBulkAll ds ≤ 1048576)
def OpenSpec.upto (s : _root_.Go.ChangeSpec) : _root_.Go.OpenSpec := { _root_.Go.OpenSpec.ofChange s with cond := some uptoSmall }

/-- 'facetlaw09.OrbitOfs', WHERE WHAT IT READS IS OF BULK AT MOST 1048576: true; the input reads as it did. -/
def orbitOfsUptoRow : OpenClaim := { program := "ytkcoohpammhnhaa", sum := "99a3a9c7b78e7efdd71f0374218315f6a6a67568f6731edf472090830d6abc11", func := "facet/facetlaw09.OrbitOfs", spec := "orbitOfs", unfollowed := true, recurses := true, plainKeys := false, apart := false, narrowed := true }
def OrbitOfsUptoSaid : Prop := orbitOfsUptoRow.holds Try.pinned (OpenSpec.upto orbitOfsSpec)

/-- 'facetlaw09.OrbitFirsts', WHERE WHAT IT READS IS OF BULK AT MOST 1048576: true; the input reads as it did. -/
def orbitFirstsUptoRow : OpenClaim := { program := "ytkcoohpammhnhaa", sum := "99a3a9c7b78e7efdd71f0374218315f6a6a67568f6731edf472090830d6abc11", func := "facet/facetlaw09.OrbitFirsts", spec := "orbitFirsts", unfollowed := true, recurses := true, plainKeys := false, apart := false, narrowed := true }
def OrbitFirstsUptoSaid : Prop := orbitFirstsUptoRow.holds Try.pinned (OpenSpec.upto orbitFirstsSpec)

/-- 'facetlaw09.OrbitKeeps', WHERE WHAT IT READS IS OF BULK AT MOST 1048576: true; the input reads as it did. -/
def orbitKeepsUptoRow : OpenClaim := { program := "ytkcoohpammhnhaa", sum := "99a3a9c7b78e7efdd71f0374218315f6a6a67568f6731edf472090830d6abc11", func := "facet/facetlaw09.OrbitKeeps", spec := "orbitKeeps", unfollowed := true, recurses := true, plainKeys := false, apart := false, narrowed := true }
def OrbitKeepsUptoSaid : Prop := orbitKeepsUptoRow.holds Try.pinned (OpenSpec.upto orbitKeepsSpec)

/-- 'facetlaw09.OrbitCounts', WHERE WHAT IT READS IS OF BULK AT MOST 1048576: true; the input reads as it did. -/
def orbitCountsUptoRow : OpenClaim := { program := "ytkcoohpammhnhaa", sum := "99a3a9c7b78e7efdd71f0374218315f6a6a67568f6731edf472090830d6abc11", func := "facet/facetlaw09.OrbitCounts", spec := "orbitCounts", unfollowed := true, recurses := true, plainKeys := false, apart := false, narrowed := true }
def OrbitCountsUptoSaid : Prop := orbitCountsUptoRow.holds Try.pinned (OpenSpec.upto orbitCountsSpec)

/-- 'facetlaw09.OrbitMoves', WHERE WHAT IT READS IS OF BULK AT MOST 1048576: true; the input reads as it did. -/
def orbitMovesUptoRow : OpenClaim := { program := "ytkcoohpammhnhaa", sum := "99a3a9c7b78e7efdd71f0374218315f6a6a67568f6731edf472090830d6abc11", func := "facet/facetlaw09.OrbitMoves", spec := "orbitMoves", unfollowed := true, recurses := true, plainKeys := false, apart := false, narrowed := true }
def OrbitMovesUptoSaid : Prop := orbitMovesUptoRow.holds Try.pinned (OpenSpec.upto orbitMovesSpec)

/-- 'facetlaw09.OrbitParts', WHERE WHAT IT READS IS OF BULK AT MOST 1048576: true; the input reads as it did. -/
def orbitPartsUptoRow : OpenClaim := { program := "ytkcoohpammhnhaa", sum := "99a3a9c7b78e7efdd71f0374218315f6a6a67568f6731edf472090830d6abc11", func := "facet/facetlaw09.OrbitParts", spec := "orbitParts", unfollowed := true, recurses := true, plainKeys := false, apart := false, narrowed := true }
def OrbitPartsUptoSaid : Prop := orbitPartsUptoRow.holds Try.pinned (OpenSpec.upto orbitPartsSpec)

/-- 'facettop.WholeOrbits', WHERE WHAT IT READS IS OF BULK AT MOST 1048576: true; the input reads as it did. -/
def wholeOrbitsUptoRow : OpenClaim := { program := "ytkcoohpammhnhaa", sum := "99a3a9c7b78e7efdd71f0374218315f6a6a67568f6731edf472090830d6abc11", func := "facet/facettop.WholeOrbits", spec := "wholeOrbits", unfollowed := true, recurses := true, plainKeys := false, apart := false, narrowed := true }
def WholeOrbitsUptoSaid : Prop := wholeOrbitsUptoRow.holds Try.pinned (OpenSpec.upto wholeOrbitsSpec)

end Rows
end Go.Proofs.Ytkcoohpammhnhaa
