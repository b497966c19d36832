/-
  No cell of these rows narrows 'for every input' (looked for: loops, veiled, ifaces, maps, wideKeys, modest, calm, conditions, laid).
  DERIVED. THE GIVEN ROWS OF THIS SEAT. 5 by the template 'for every input the law returns true; each argument reads behind the call as it read before'; 0 by the template 'total and deterministic' (their statements: YtkmbomopkojgfaaTotals.lean).
  GIVEN WITH THE SEED: the statements are not yours to turn. If you find one false, say at which input.
  Laid BY PROGRAM, IN A SANDBOX (cutbox-rows.mjs): the forced cells as the released guide's own fill.sh prints them over the translation 44b488261b23ef18… (all of the seat's roots in one cut). By AI agents, Wed Nov 11 2026. No macro, syntax, notation, axiom, sorry.
-/
import Derived.Test.YtkmbomopkojgfaaChecked
import GoSem.Claim
import GoSem.ClaimJoined
import GoSem.ClaimMapViews
import Derived.JoinedTies
import Derived.KernelRfl
namespace Go.Proofs.Ytkmbomopkojgfaa
/- THE CELL 'sum', in the pinned program and in every row, IS THE sha256 OF THE DUMP (.gsa) THAT YtkmbomopkojgfaaProg.lean LOADS. Nothing in Lean hashes anything: it is a label: what it is worth is what the hold of that sum in a sandbox is worth. -/
noncomputable def Try.pinned : Pinned := { name := "ytkmbomopkojgfaa", sum := "44b488261b23ef18d8bed5c05c293a36053feccd41b04356d32ad75e22815222", checked := Try.checked }
namespace Rows
def none {H : Type} : Left H := { results := [], args := [] }

/-- 'facetlaw06.SubSplits': WHATEVER THE INPUT: true; the input reads as it did. -/
def subSplitsSpec : ChangeSpec := { name := "subSplits", fn := fun _ => fun
  | [d1, d2] => { results := [.lit (.bool true)], args := [d1, d2] }
  | _ => none }
def subSplitsRow : OpenClaim := { program := "ytkmbomopkojgfaa", sum := "44b488261b23ef18d8bed5c05c293a36053feccd41b04356d32ad75e22815222", func := "facet/facetlaw06.SubSplits", spec := "subSplits", unfollowed := true, recurses := true, plainKeys := false, apart := false }
def SubSplitsSaid : Prop := subSplitsRow.holds Try.pinned (OpenSpec.ofChange subSplitsSpec)

/-- ITS FALSE NEIGHBOUR: 'it returns false'. Refute it at one input. -/
def subSplitsWrong : ChangeSpec := { name := "subSplits", fn := fun _ => fun
  | [d1, d2] => { results := [.lit (.bool false)], args := [d1, d2] }
  | _ => none }
def SubSplitsWrongFalsely : Prop := subSplitsRow.holds Try.pinned (OpenSpec.ofChange subSplitsWrong)

/-- 'facetlaw06.SubCloses': WHATEVER THE INPUT: true; the input reads as it did. -/
def subClosesSpec : ChangeSpec := { name := "subCloses", fn := fun _ => fun
  | [d1, d2] => { results := [.lit (.bool true)], args := [d1, d2] }
  | _ => none }
def subClosesRow : OpenClaim := { program := "ytkmbomopkojgfaa", sum := "44b488261b23ef18d8bed5c05c293a36053feccd41b04356d32ad75e22815222", func := "facet/facetlaw06.SubCloses", spec := "subCloses", unfollowed := true, recurses := true, plainKeys := false, apart := false }
def SubClosesSaid : Prop := subClosesRow.holds Try.pinned (OpenSpec.ofChange subClosesSpec)

/-- ITS FALSE NEIGHBOUR: 'it returns false'. Refute it at one input. -/
def subClosesWrong : ChangeSpec := { name := "subCloses", fn := fun _ => fun
  | [d1, d2] => { results := [.lit (.bool false)], args := [d1, d2] }
  | _ => none }
def SubClosesWrongFalsely : Prop := subClosesRow.holds Try.pinned (OpenSpec.ofChange subClosesWrong)

/-- 'facetlaw06.SubFixed': WHATEVER THE INPUT: true; the input reads as it did. -/
def subFixedSpec : ChangeSpec := { name := "subFixed", fn := fun _ => fun
  | [] => { results := [.lit (.bool true)], args := [] }
  | _ => none }
def subFixedRow : OpenClaim := { program := "ytkmbomopkojgfaa", sum := "44b488261b23ef18d8bed5c05c293a36053feccd41b04356d32ad75e22815222", func := "facet/facetlaw06.SubFixed", spec := "subFixed", unfollowed := true, recurses := true, plainKeys := false, apart := false }
def SubFixedSaid : Prop := subFixedRow.holds Try.pinned (OpenSpec.ofChange subFixedSpec)

/-- ITS FALSE NEIGHBOUR: 'it returns false'. Refute it at one input. -/
def subFixedWrong : ChangeSpec := { name := "subFixed", fn := fun _ => fun
  | [] => { results := [.lit (.bool false)], args := [] }
  | _ => none }
def SubFixedWrongFalsely : Prop := subFixedRow.holds Try.pinned (OpenSpec.ofChange subFixedWrong)

/-- 'facetlaw06.SubTwins': WHATEVER THE INPUT: true; the input reads as it did. -/
def subTwinsSpec : ChangeSpec := { name := "subTwins", fn := fun _ => fun
  | [d] => { results := [.lit (.bool true)], args := [d] }
  | _ => none }
def subTwinsRow : OpenClaim := { program := "ytkmbomopkojgfaa", sum := "44b488261b23ef18d8bed5c05c293a36053feccd41b04356d32ad75e22815222", func := "facet/facetlaw06.SubTwins", spec := "subTwins", unfollowed := true, recurses := true, plainKeys := false, apart := false }
def SubTwinsSaid : Prop := subTwinsRow.holds Try.pinned (OpenSpec.ofChange subTwinsSpec)

/-- ITS FALSE NEIGHBOUR: 'it returns false'. Refute it at one input. -/
def subTwinsWrong : ChangeSpec := { name := "subTwins", fn := fun _ => fun
  | [d] => { results := [.lit (.bool false)], args := [d] }
  | _ => none }
def SubTwinsWrongFalsely : Prop := subTwinsRow.holds Try.pinned (OpenSpec.ofChange subTwinsWrong)

/-- 'facettop.WholeCosets': WHATEVER THE INPUT: true; the input reads as it did. -/
def wholeCosetsSpec : ChangeSpec := { name := "wholeCosets", fn := fun _ => fun
  | [d1, d2] => { results := [.lit (.bool true)], args := [d1, d2] }
  | _ => none }
def wholeCosetsRow : OpenClaim := { program := "ytkmbomopkojgfaa", sum := "44b488261b23ef18d8bed5c05c293a36053feccd41b04356d32ad75e22815222", func := "facet/facettop.WholeCosets", spec := "wholeCosets", unfollowed := true, recurses := true, plainKeys := false, apart := false }
def WholeCosetsSaid : Prop := wholeCosetsRow.holds Try.pinned (OpenSpec.ofChange wholeCosetsSpec)

/-- ITS FALSE NEIGHBOUR: 'it returns false'. Refute it at one input. -/
def wholeCosetsWrong : ChangeSpec := { name := "wholeCosets", fn := fun _ => fun
  | [d1, d2] => { results := [.lit (.bool false)], args := [d1, d2] }
  | _ => none }
def WholeCosetsWrongFalsely : Prop := wholeCosetsRow.holds Try.pinned (OpenSpec.ofChange wholeCosetsWrong)

/- THE SECOND FORM. 'bulk': how many values and letters a reading holds, each counted each time it is reached (what is shared counts as often as it is met; a slice's spare places count too). A statement '..UptoSaid' is the law's where the arguments, and the package variables that the reading takes, are together of bulk at most 1048576: NARROWER than '..Said'. Prove '..Said' where nothing that the law and all that it calls make is longer than what came in: it says more and counts as full. Else prove '..UptoSaid'. A law counts once. -/
mutual
def uptoBulk {H : Type} : DataW H → Nat
  | .lit (.string bytes) => bytes.length + 1
  | .lit _ => 1
  | .nil => 1
  | .ptr d => uptoBulk d + 1
  | .slice elems spare => uptoBulkAll elems + uptoBulkAll spare + 1
  | .agg parts => uptoBulkAll parts + 1
  | .iface _ d => uptoBulk d + 1
  | .map entries => uptoBulkEntries entries + 1
  | .held _ => 1
def uptoBulkAll {H : Type} : List (DataW H) → Nat
  | [] => 0
  | d :: r => uptoBulk d + uptoBulkAll r
def uptoBulkEntries {H : Type} : List (Lit × DataW H) → Nat
  | [] => 0
  | x :: r => uptoBulkEntry x + uptoBulkEntries r
def uptoBulkEntry {H : Type} : Lit × DataW H → Nat
  | (.string bytes, d) => bytes.length + uptoBulk d + 1
  | (_, d) => uptoBulk d + 1
 end
def uptoSmall : (H : Type) → List (DataW H) → Bool := fun _ ds => decide (uptoBulkAll ds ≤ 1048576)
def OpenSpec.upto (s : _root_.Go.ChangeSpec) : _root_.Go.OpenSpec := { _root_.Go.OpenSpec.ofChange s with cond := some uptoSmall }

/-- 'facetlaw06.SubSplits', WHERE WHAT IT READS IS OF BULK AT MOST 1048576: true; the input reads as it did. -/
def subSplitsUptoRow : OpenClaim := { program := "ytkmbomopkojgfaa", sum := "44b488261b23ef18d8bed5c05c293a36053feccd41b04356d32ad75e22815222", func := "facet/facetlaw06.SubSplits", spec := "subSplits", unfollowed := true, recurses := true, plainKeys := false, apart := false, narrowed := true }
def SubSplitsUptoSaid : Prop := subSplitsUptoRow.holds Try.pinned (OpenSpec.upto subSplitsSpec)

/-- 'facetlaw06.SubCloses', WHERE WHAT IT READS IS OF BULK AT MOST 1048576: true; the input reads as it did. -/
def subClosesUptoRow : OpenClaim := { program := "ytkmbomopkojgfaa", sum := "44b488261b23ef18d8bed5c05c293a36053feccd41b04356d32ad75e22815222", func := "facet/facetlaw06.SubCloses", spec := "subCloses", unfollowed := true, recurses := true, plainKeys := false, apart := false, narrowed := true }
def SubClosesUptoSaid : Prop := subClosesUptoRow.holds Try.pinned (OpenSpec.upto subClosesSpec)

/-- 'facetlaw06.SubFixed', WHERE WHAT IT READS IS OF BULK AT MOST 1048576: true; the input reads as it did. -/
def subFixedUptoRow : OpenClaim := { program := "ytkmbomopkojgfaa", sum := "44b488261b23ef18d8bed5c05c293a36053feccd41b04356d32ad75e22815222", func := "facet/facetlaw06.SubFixed", spec := "subFixed", unfollowed := true, recurses := true, plainKeys := false, apart := false, narrowed := true }
def SubFixedUptoSaid : Prop := subFixedUptoRow.holds Try.pinned (OpenSpec.upto subFixedSpec)

/-- 'facetlaw06.SubTwins', WHERE WHAT IT READS IS OF BULK AT MOST 1048576: true; the input reads as it did. -/
def subTwinsUptoRow : OpenClaim := { program := "ytkmbomopkojgfaa", sum := "44b488261b23ef18d8bed5c05c293a36053feccd41b04356d32ad75e22815222", func := "facet/facetlaw06.SubTwins", spec := "subTwins", unfollowed := true, recurses := true, plainKeys := false, apart := false, narrowed := true }
def SubTwinsUptoSaid : Prop := subTwinsUptoRow.holds Try.pinned (OpenSpec.upto subTwinsSpec)

/-- 'facettop.WholeCosets', WHERE WHAT IT READS IS OF BULK AT MOST 1048576: true; the input reads as it did. -/
def wholeCosetsUptoRow : OpenClaim := { program := "ytkmbomopkojgfaa", sum := "44b488261b23ef18d8bed5c05c293a36053feccd41b04356d32ad75e22815222", func := "facet/facettop.WholeCosets", spec := "wholeCosets", unfollowed := true, recurses := true, plainKeys := false, apart := false, narrowed := true }
def WholeCosetsUptoSaid : Prop := wholeCosetsUptoRow.holds Try.pinned (OpenSpec.upto wholeCosetsSpec)

end Rows
end Go.Proofs.Ytkmbomopkojgfaa
