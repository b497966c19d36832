/-
  No cell of these rows narrows 'for every input' (looked for: loops, veiled, ifaces, maps, wideKeys, modest, calm, conditions, laid).
  DERIVED. THE GIVEN ROWS OF THIS SEAT. 7 by the template 'for every input the law returns true; each argument reads behind the call as it read before'; 0 by the template 'total and deterministic' (their statements: YtkchandelfmoaaaTotals.lean).
  GIVEN WITH THE SEED: the statements are not yours to turn. If you find one false, say at which input.
  Laid BY PROGRAM, IN A SANDBOX (cutbox-rows.mjs): the forced cells as the released guide's own fill.sh prints them over the translation 805fa8c28548fd50… (all of the seat's roots in one cut). By AI agents, Wed Nov 11 2026. No macro, syntax, notation, axiom, sorry.
-/
import Derived.Test.YtkchandelfmoaaaChecked
import GoSem.Claim
import GoSem.ClaimJoined
import GoSem.ClaimMapViews
import Derived.JoinedTies
import Derived.KernelRfl
namespace Go.Proofs.Ytkchandelfmoaaa
/- THE CELL 'sum', in the pinned program and in every row, IS THE sha256 OF THE DUMP (.gsa) THAT YtkchandelfmoaaaProg.lean LOADS. Nothing in Lean hashes anything: it is a label: what it is worth is what the hold of that sum in a sandbox is worth. -/
noncomputable def Try.pinned : Pinned := { name := "ytkchandelfmoaaa", sum := "805fa8c28548fd50defdfd433ff018c5cdccdb958de5c0bc524c469549d8d6b2", checked := Try.checked }
namespace Rows
def none {H : Type} : Left H := { results := [], args := [] }

/-- 'facetlaw07.BasisMetrics': WHATEVER THE INPUT: true; the input reads as it did. -/
def basisMetricsSpec : ChangeSpec := { name := "basisMetrics", fn := fun _ => fun
  | [d1, d2] => { results := [.lit (.bool true)], args := [d1, d2] }
  | _ => none }
def basisMetricsRow : OpenClaim := { program := "ytkchandelfmoaaa", sum := "805fa8c28548fd50defdfd433ff018c5cdccdb958de5c0bc524c469549d8d6b2", func := "facet/facetlaw07.BasisMetrics", spec := "basisMetrics", unfollowed := true, recurses := true, plainKeys := false, apart := false }
def BasisMetricsSaid : Prop := basisMetricsRow.holds Try.pinned (OpenSpec.ofChange basisMetricsSpec)

/-- ITS FALSE NEIGHBOUR: 'it returns false'. Refute it at one input. -/
def basisMetricsWrong : ChangeSpec := { name := "basisMetrics", fn := fun _ => fun
  | [d1, d2] => { results := [.lit (.bool false)], args := [d1, d2] }
  | _ => none }
def BasisMetricsWrongFalsely : Prop := basisMetricsRow.holds Try.pinned (OpenSpec.ofChange basisMetricsWrong)

/-- 'facetlaw07.BasisPhases': WHATEVER THE INPUT: true; the input reads as it did. -/
def basisPhasesSpec : ChangeSpec := { name := "basisPhases", fn := fun _ => fun
  | [d1, d2, d3] => { results := [.lit (.bool true)], args := [d1, d2, d3] }
  | _ => none }
def basisPhasesRow : OpenClaim := { program := "ytkchandelfmoaaa", sum := "805fa8c28548fd50defdfd433ff018c5cdccdb958de5c0bc524c469549d8d6b2", func := "facet/facetlaw07.BasisPhases", spec := "basisPhases", unfollowed := true, recurses := true, plainKeys := false, apart := false }
def BasisPhasesSaid : Prop := basisPhasesRow.holds Try.pinned (OpenSpec.ofChange basisPhasesSpec)

/-- ITS FALSE NEIGHBOUR: 'it returns false'. Refute it at one input. -/
def basisPhasesWrong : ChangeSpec := { name := "basisPhases", fn := fun _ => fun
  | [d1, d2, d3] => { results := [.lit (.bool false)], args := [d1, d2, d3] }
  | _ => none }
def BasisPhasesWrongFalsely : Prop := basisPhasesRow.holds Try.pinned (OpenSpec.ofChange basisPhasesWrong)

/-- 'facetlaw07.BasisChanges': WHATEVER THE INPUT: true; the input reads as it did. -/
def basisChangesSpec : ChangeSpec := { name := "basisChanges", fn := fun _ => fun
  | [d1, d2] => { results := [.lit (.bool true)], args := [d1, d2] }
  | _ => none }
def basisChangesRow : OpenClaim := { program := "ytkchandelfmoaaa", sum := "805fa8c28548fd50defdfd433ff018c5cdccdb958de5c0bc524c469549d8d6b2", func := "facet/facetlaw07.BasisChanges", spec := "basisChanges", unfollowed := true, recurses := true, plainKeys := false, apart := false }
def BasisChangesSaid : Prop := basisChangesRow.holds Try.pinned (OpenSpec.ofChange basisChangesSpec)

/-- ITS FALSE NEIGHBOUR: 'it returns false'. Refute it at one input. -/
def basisChangesWrong : ChangeSpec := { name := "basisChanges", fn := fun _ => fun
  | [d1, d2] => { results := [.lit (.bool false)], args := [d1, d2] }
  | _ => none }
def BasisChangesWrongFalsely : Prop := basisChangesRow.holds Try.pinned (OpenSpec.ofChange basisChangesWrong)

/-- 'facetlaw07.BasisThings': WHATEVER THE INPUT: true; the input reads as it did. -/
def basisThingsSpec : ChangeSpec := { name := "basisThings", fn := fun _ => fun
  | [d1, d2, d3, d4] => { results := [.lit (.bool true)], args := [d1, d2, d3, d4] }
  | _ => none }
def basisThingsRow : OpenClaim := { program := "ytkchandelfmoaaa", sum := "805fa8c28548fd50defdfd433ff018c5cdccdb958de5c0bc524c469549d8d6b2", func := "facet/facetlaw07.BasisThings", spec := "basisThings", unfollowed := true, recurses := true, plainKeys := false, apart := false }
def BasisThingsSaid : Prop := basisThingsRow.holds Try.pinned (OpenSpec.ofChange basisThingsSpec)

/-- ITS FALSE NEIGHBOUR: 'it returns false'. Refute it at one input. -/
def basisThingsWrong : ChangeSpec := { name := "basisThings", fn := fun _ => fun
  | [d1, d2, d3, d4] => { results := [.lit (.bool false)], args := [d1, d2, d3, d4] }
  | _ => none }
def BasisThingsWrongFalsely : Prop := basisThingsRow.holds Try.pinned (OpenSpec.ofChange basisThingsWrong)

/-- 'facetlaw07.BasisGoes': WHATEVER THE INPUT: true; the input reads as it did. -/
def basisGoesSpec : ChangeSpec := { name := "basisGoes", fn := fun _ => fun
  | [d1, d2, d3] => { results := [.lit (.bool true)], args := [d1, d2, d3] }
  | _ => none }
def basisGoesRow : OpenClaim := { program := "ytkchandelfmoaaa", sum := "805fa8c28548fd50defdfd433ff018c5cdccdb958de5c0bc524c469549d8d6b2", func := "facet/facetlaw07.BasisGoes", spec := "basisGoes", unfollowed := true, recurses := true, plainKeys := false, apart := false }
def BasisGoesSaid : Prop := basisGoesRow.holds Try.pinned (OpenSpec.ofChange basisGoesSpec)

/-- ITS FALSE NEIGHBOUR: 'it returns false'. Refute it at one input. -/
def basisGoesWrong : ChangeSpec := { name := "basisGoes", fn := fun _ => fun
  | [d1, d2, d3] => { results := [.lit (.bool false)], args := [d1, d2, d3] }
  | _ => none }
def BasisGoesWrongFalsely : Prop := basisGoesRow.holds Try.pinned (OpenSpec.ofChange basisGoesWrong)

/-- 'facetlaw07.BasisBack': WHATEVER THE INPUT: true; the input reads as it did. -/
def basisBackSpec : ChangeSpec := { name := "basisBack", fn := fun _ => fun
  | [d1, d2, d3, d4] => { results := [.lit (.bool true)], args := [d1, d2, d3, d4] }
  | _ => none }
def basisBackRow : OpenClaim := { program := "ytkchandelfmoaaa", sum := "805fa8c28548fd50defdfd433ff018c5cdccdb958de5c0bc524c469549d8d6b2", func := "facet/facetlaw07.BasisBack", spec := "basisBack", unfollowed := true, recurses := true, plainKeys := false, apart := false }
def BasisBackSaid : Prop := basisBackRow.holds Try.pinned (OpenSpec.ofChange basisBackSpec)

/-- ITS FALSE NEIGHBOUR: 'it returns false'. Refute it at one input. -/
def basisBackWrong : ChangeSpec := { name := "basisBack", fn := fun _ => fun
  | [d1, d2, d3, d4] => { results := [.lit (.bool false)], args := [d1, d2, d3, d4] }
  | _ => none }
def BasisBackWrongFalsely : Prop := basisBackRow.holds Try.pinned (OpenSpec.ofChange basisBackWrong)

/-- 'facettop.WholeBases': WHATEVER THE INPUT: true; the input reads as it did. -/
def wholeBasesSpec : ChangeSpec := { name := "wholeBases", fn := fun _ => fun
  | [d1, d2, d3, d4, d5] => { results := [.lit (.bool true)], args := [d1, d2, d3, d4, d5] }
  | _ => none }
def wholeBasesRow : OpenClaim := { program := "ytkchandelfmoaaa", sum := "805fa8c28548fd50defdfd433ff018c5cdccdb958de5c0bc524c469549d8d6b2", func := "facet/facettop.WholeBases", spec := "wholeBases", unfollowed := true, recurses := true, plainKeys := false, apart := false }
def WholeBasesSaid : Prop := wholeBasesRow.holds Try.pinned (OpenSpec.ofChange wholeBasesSpec)

/-- ITS FALSE NEIGHBOUR: 'it returns false'. Refute it at one input. -/
def wholeBasesWrong : ChangeSpec := { name := "wholeBases", fn := fun _ => fun
  | [d1, d2, d3, d4, d5] => { results := [.lit (.bool false)], args := [d1, d2, d3, d4, d5] }
  | _ => none }
def WholeBasesWrongFalsely : Prop := wholeBasesRow.holds Try.pinned (OpenSpec.ofChange wholeBasesWrong)

/- THE SECOND FORM. 'bulk': how many values and letters a reading holds, each counted each time it is reached (what is shared counts as often as it is met; a slice's spare places count too). A statement '..UptoSaid' is the law's where the arguments, and the package variables that the reading takes, are together of bulk at most 1048576: NARROWER than '..Said'. Prove '..Said' where nothing that the law and all that it calls make is longer than what came in: it says more and counts as full. Else prove '..UptoSaid'. A law counts once. -/
mutual
def uptoBulk {H : Type} : DataW H → Nat
  | .lit (.string bytes) => bytes.length + 1
  | .lit _ => 1
  | .nil => 1
  | .ptr d => uptoBulk d + 1
  | .slice elems spare => uptoBulkAll elems + uptoBulkAll spare + 1
  | .agg parts => uptoBulkAll parts + 1
  | .iface _ d => uptoBulk d + 1
  | .map entries => uptoBulkEntries entries + 1
  | .held _ => 1
def uptoBulkAll {H : Type} : List (DataW H) → Nat
  | [] => 0
  | d :: r => uptoBulk d + uptoBulkAll r
def uptoBulkEntries {H : Type} : List (Lit × DataW H) → Nat
  | [] => 0
  | x :: r => uptoBulkEntry x + uptoBulkEntries r
def uptoBulkEntry {H : Type} : Lit × DataW H → Nat
  | (.string bytes, d) => bytes.length + uptoBulk d + 1
  | (_, d) => uptoBulk d + 1
 end
def uptoSmall : (H : Type) → List (DataW H) → Bool := fun _ ds => decide (uptoBulkAll ds ≤ 1048576)
def OpenSpec.upto (s : _root_.Go.ChangeSpec) : _root_.Go.OpenSpec := { _root_.Go.OpenSpec.ofChange s with cond := some uptoSmall }

/-- 'facetlaw07.BasisMetrics', WHERE WHAT IT READS IS OF BULK AT MOST 1048576: true; the input reads as it did. -/
def basisMetricsUptoRow : OpenClaim := { program := "ytkchandelfmoaaa", sum := "805fa8c28548fd50defdfd433ff018c5cdccdb958de5c0bc524c469549d8d6b2", func := "facet/facetlaw07.BasisMetrics", spec := "basisMetrics", unfollowed := true, recurses := true, plainKeys := false, apart := false, narrowed := true }
def BasisMetricsUptoSaid : Prop := basisMetricsUptoRow.holds Try.pinned (OpenSpec.upto basisMetricsSpec)

/-- 'facetlaw07.BasisPhases', WHERE WHAT IT READS IS OF BULK AT MOST 1048576: true; the input reads as it did. -/
def basisPhasesUptoRow : OpenClaim := { program := "ytkchandelfmoaaa", sum := "805fa8c28548fd50defdfd433ff018c5cdccdb958de5c0bc524c469549d8d6b2", func := "facet/facetlaw07.BasisPhases", spec := "basisPhases", unfollowed := true, recurses := true, plainKeys := false, apart := false, narrowed := true }
def BasisPhasesUptoSaid : Prop := basisPhasesUptoRow.holds Try.pinned (OpenSpec.upto basisPhasesSpec)

/-- 'facetlaw07.BasisChanges', WHERE WHAT IT READS IS OF BULK AT MOST 1048576: true; the input reads as it did. -/
def basisChangesUptoRow : OpenClaim := { program := "ytkchandelfmoaaa", sum := "805fa8c28548fd50defdfd433ff018c5cdccdb958de5c0bc524c469549d8d6b2", func := "facet/facetlaw07.BasisChanges", spec := "basisChanges", unfollowed := true, recurses := true, plainKeys := false, apart := false, narrowed := true }
def BasisChangesUptoSaid : Prop := basisChangesUptoRow.holds Try.pinned (OpenSpec.upto basisChangesSpec)

/-- 'facetlaw07.BasisThings', WHERE WHAT IT READS IS OF BULK AT MOST 1048576: true; the input reads as it did. -/
def basisThingsUptoRow : OpenClaim := { program := "ytkchandelfmoaaa", sum := "805fa8c28548fd50defdfd433ff018c5cdccdb958de5c0bc524c469549d8d6b2", func := "facet/facetlaw07.BasisThings", spec := "basisThings", unfollowed := true, recurses := true, plainKeys := false, apart := false, narrowed := true }
def BasisThingsUptoSaid : Prop := basisThingsUptoRow.holds Try.pinned (OpenSpec.upto basisThingsSpec)

/-- 'facetlaw07.BasisGoes', WHERE WHAT IT READS IS OF BULK AT MOST 1048576: true; the input reads as it did. -/
def basisGoesUptoRow : OpenClaim := { program := "ytkchandelfmoaaa", sum := "805fa8c28548fd50defdfd433ff018c5cdccdb958de5c0bc524c469549d8d6b2", func := "facet/facetlaw07.BasisGoes", spec := "basisGoes", unfollowed := true, recurses := true, plainKeys := false, apart := false, narrowed := true }
def BasisGoesUptoSaid : Prop := basisGoesUptoRow.holds Try.pinned (OpenSpec.upto basisGoesSpec)

/-- 'facetlaw07.BasisBack', WHERE WHAT IT READS IS OF BULK AT MOST 1048576: true; the input reads as it did. -/
def basisBackUptoRow : OpenClaim := { program := "ytkchandelfmoaaa", sum := "805fa8c28548fd50defdfd433ff018c5cdccdb958de5c0bc524c469549d8d6b2", func := "facet/facetlaw07.BasisBack", spec := "basisBack", unfollowed := true, recurses := true, plainKeys := false, apart := false, narrowed := true }
def BasisBackUptoSaid : Prop := basisBackUptoRow.holds Try.pinned (OpenSpec.upto basisBackSpec)

/-- 'facettop.WholeBases', WHERE WHAT IT READS IS OF BULK AT MOST 1048576: true; the input reads as it did. -/
def wholeBasesUptoRow : OpenClaim := { program := "ytkchandelfmoaaa", sum := "805fa8c28548fd50defdfd433ff018c5cdccdb958de5c0bc524c469549d8d6b2", func := "facet/facettop.WholeBases", spec := "wholeBases", unfollowed := true, recurses := true, plainKeys := false, apart := false, narrowed := true }
def WholeBasesUptoSaid : Prop := wholeBasesUptoRow.holds Try.pinned (OpenSpec.upto wholeBasesSpec)

end Rows
end Go.Proofs.Ytkchandelfmoaaa
