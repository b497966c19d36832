/-
  No cell of these rows narrows 'for every input' (looked for: loops, veiled, ifaces, maps, wideKeys, modest, calm, conditions, laid).
  DERIVED. THE GIVEN ROWS OF THIS SEAT. 7 by the template 'for every input the law returns true; each argument reads behind the call as it read before'; 0 by the template 'total and deterministic' (their statements: YteldhhdgihmocaaTotals.lean).
  GIVEN WITH THE SEED: the statements are not yours to turn. If you find one false, say at which input.
  Laid BY PROGRAM, IN A SANDBOX (cutbox-rows.mjs): the forced cells as the released guide's own fill.sh prints them over the translation 9f51c59c26218570… (all of the seat's roots in one cut). By AI agents, Wed Nov 11 2026. No macro, syntax, notation, axiom, sorry.
-/
import Derived.Test.YteldhhdgihmocaaChecked
import GoSem.Claim
import GoSem.ClaimJoined
import GoSem.ClaimMapViews
import Derived.JoinedTies
import Derived.KernelRfl
namespace Go.Proofs.Yteldhhdgihmocaa
/- THE CELL 'sum', in the pinned program and in every row, IS THE sha256 OF THE DUMP (.gsa) THAT YteldhhdgihmocaaProg.lean LOADS. Nothing in Lean hashes anything: it is a label: what it is worth is what the hold of that sum in a sandbox is worth. -/
noncomputable def Try.pinned : Pinned := { name := "yteldhhdgihmocaa", sum := "9f51c59c26218570897314de68fa8cec3110f74cb178760d62b73c58f9714a7b", checked := Try.checked }
namespace Rows
def none {H : Type} : Left H := { results := [], args := [] }

/-- 'facetlaw14.AbsentIs': WHATEVER THE INPUT: true; the input reads as it did. -/
def absentIsSpec : ChangeSpec := { name := "absentIs", fn := fun _ => fun
  | [d1, d2] => { results := [.lit (.bool true)], args := [d1, d2] }
  | _ => none }
def absentIsRow : OpenClaim := { program := "yteldhhdgihmocaa", sum := "9f51c59c26218570897314de68fa8cec3110f74cb178760d62b73c58f9714a7b", func := "facet/facetlaw14.AbsentIs", spec := "absentIs", unfollowed := true, recurses := true, plainKeys := false, apart := false }
def AbsentIsSaid : Prop := absentIsRow.holds Try.pinned (OpenSpec.ofChange absentIsSpec)

/-- ITS FALSE NEIGHBOUR: 'it returns false'. Refute it at one input. -/
def absentIsWrong : ChangeSpec := { name := "absentIs", fn := fun _ => fun
  | [d1, d2] => { results := [.lit (.bool false)], args := [d1, d2] }
  | _ => none }
def AbsentIsWrongFalsely : Prop := absentIsRow.holds Try.pinned (OpenSpec.ofChange absentIsWrong)

/-- 'facetlaw14.AbsentSorts': WHATEVER THE INPUT: true; the input reads as it did. -/
def absentSortsSpec : ChangeSpec := { name := "absentSorts", fn := fun _ => fun
  | [d1, d2] => { results := [.lit (.bool true)], args := [d1, d2] }
  | _ => none }
def absentSortsRow : OpenClaim := { program := "yteldhhdgihmocaa", sum := "9f51c59c26218570897314de68fa8cec3110f74cb178760d62b73c58f9714a7b", func := "facet/facetlaw14.AbsentSorts", spec := "absentSorts", unfollowed := true, recurses := true, plainKeys := false, apart := false }
def AbsentSortsSaid : Prop := absentSortsRow.holds Try.pinned (OpenSpec.ofChange absentSortsSpec)

/-- ITS FALSE NEIGHBOUR: 'it returns false'. Refute it at one input. -/
def absentSortsWrong : ChangeSpec := { name := "absentSorts", fn := fun _ => fun
  | [d1, d2] => { results := [.lit (.bool false)], args := [d1, d2] }
  | _ => none }
def AbsentSortsWrongFalsely : Prop := absentSortsRow.holds Try.pinned (OpenSpec.ofChange absentSortsWrong)

/-- 'facetlaw14.AbsentMemory': WHATEVER THE INPUT: true; the input reads as it did. -/
def absentMemorySpec : ChangeSpec := { name := "absentMemory", fn := fun _ => fun
  | [d1, d2] => { results := [.lit (.bool true)], args := [d1, d2] }
  | _ => none }
def absentMemoryRow : OpenClaim := { program := "yteldhhdgihmocaa", sum := "9f51c59c26218570897314de68fa8cec3110f74cb178760d62b73c58f9714a7b", func := "facet/facetlaw14.AbsentMemory", spec := "absentMemory", unfollowed := true, recurses := true, plainKeys := false, apart := false }
def AbsentMemorySaid : Prop := absentMemoryRow.holds Try.pinned (OpenSpec.ofChange absentMemorySpec)

/-- ITS FALSE NEIGHBOUR: 'it returns false'. Refute it at one input. -/
def absentMemoryWrong : ChangeSpec := { name := "absentMemory", fn := fun _ => fun
  | [d1, d2] => { results := [.lit (.bool false)], args := [d1, d2] }
  | _ => none }
def AbsentMemoryWrongFalsely : Prop := absentMemoryRow.holds Try.pinned (OpenSpec.ofChange absentMemoryWrong)

/-- 'facetlaw14.AbsentFixed': WHATEVER THE INPUT: true; the input reads as it did. -/
def absentFixedSpec : ChangeSpec := { name := "absentFixed", fn := fun _ => fun
  | [] => { results := [.lit (.bool true)], args := [] }
  | _ => none }
def absentFixedRow : OpenClaim := { program := "yteldhhdgihmocaa", sum := "9f51c59c26218570897314de68fa8cec3110f74cb178760d62b73c58f9714a7b", func := "facet/facetlaw14.AbsentFixed", spec := "absentFixed", unfollowed := true, recurses := true, plainKeys := false, apart := false }
def AbsentFixedSaid : Prop := absentFixedRow.holds Try.pinned (OpenSpec.ofChange absentFixedSpec)

/-- ITS FALSE NEIGHBOUR: 'it returns false'. Refute it at one input. -/
def absentFixedWrong : ChangeSpec := { name := "absentFixed", fn := fun _ => fun
  | [] => { results := [.lit (.bool false)], args := [] }
  | _ => none }
def AbsentFixedWrongFalsely : Prop := absentFixedRow.holds Try.pinned (OpenSpec.ofChange absentFixedWrong)

/-- 'facetlaw14.AbsentParts': WHATEVER THE INPUT: true; the input reads as it did. -/
def absentPartsSpec : ChangeSpec := { name := "absentParts", fn := fun _ => fun
  | [d1, d2, d3] => { results := [.lit (.bool true)], args := [d1, d2, d3] }
  | _ => none }
def absentPartsRow : OpenClaim := { program := "yteldhhdgihmocaa", sum := "9f51c59c26218570897314de68fa8cec3110f74cb178760d62b73c58f9714a7b", func := "facet/facetlaw14.AbsentParts", spec := "absentParts", unfollowed := true, recurses := true, plainKeys := false, apart := false }
def AbsentPartsSaid : Prop := absentPartsRow.holds Try.pinned (OpenSpec.ofChange absentPartsSpec)

/-- ITS FALSE NEIGHBOUR: 'it returns false'. Refute it at one input. -/
def absentPartsWrong : ChangeSpec := { name := "absentParts", fn := fun _ => fun
  | [d1, d2, d3] => { results := [.lit (.bool false)], args := [d1, d2, d3] }
  | _ => none }
def AbsentPartsWrongFalsely : Prop := absentPartsRow.holds Try.pinned (OpenSpec.ofChange absentPartsWrong)

/-- 'facetlaw14.AbsentSees': WHATEVER THE INPUT: true; the input reads as it did. -/
def absentSeesSpec : ChangeSpec := { name := "absentSees", fn := fun _ => fun
  | [d1, d2] => { results := [.lit (.bool true)], args := [d1, d2] }
  | _ => none }
def absentSeesRow : OpenClaim := { program := "yteldhhdgihmocaa", sum := "9f51c59c26218570897314de68fa8cec3110f74cb178760d62b73c58f9714a7b", func := "facet/facetlaw14.AbsentSees", spec := "absentSees", unfollowed := true, recurses := true, plainKeys := false, apart := false }
def AbsentSeesSaid : Prop := absentSeesRow.holds Try.pinned (OpenSpec.ofChange absentSeesSpec)

/-- ITS FALSE NEIGHBOUR: 'it returns false'. Refute it at one input. -/
def absentSeesWrong : ChangeSpec := { name := "absentSees", fn := fun _ => fun
  | [d1, d2] => { results := [.lit (.bool false)], args := [d1, d2] }
  | _ => none }
def AbsentSeesWrongFalsely : Prop := absentSeesRow.holds Try.pinned (OpenSpec.ofChange absentSeesWrong)

/-- 'facetlaw14.AbsentTurns': WHATEVER THE INPUT: true; the input reads as it did. -/
def absentTurnsSpec : ChangeSpec := { name := "absentTurns", fn := fun _ => fun
  | [d1, d2] => { results := [.lit (.bool true)], args := [d1, d2] }
  | _ => none }
def absentTurnsRow : OpenClaim := { program := "yteldhhdgihmocaa", sum := "9f51c59c26218570897314de68fa8cec3110f74cb178760d62b73c58f9714a7b", func := "facet/facetlaw14.AbsentTurns", spec := "absentTurns", unfollowed := true, recurses := true, plainKeys := false, apart := false }
def AbsentTurnsSaid : Prop := absentTurnsRow.holds Try.pinned (OpenSpec.ofChange absentTurnsSpec)

/-- ITS FALSE NEIGHBOUR: 'it returns false'. Refute it at one input. -/
def absentTurnsWrong : ChangeSpec := { name := "absentTurns", fn := fun _ => fun
  | [d1, d2] => { results := [.lit (.bool false)], args := [d1, d2] }
  | _ => none }
def AbsentTurnsWrongFalsely : Prop := absentTurnsRow.holds Try.pinned (OpenSpec.ofChange absentTurnsWrong)

/- THE SECOND FORM. 'bulk': how many values and letters a reading holds, each counted each time it is reached (what is shared counts as often as it is met; a slice's spare places count too). A statement '..UptoSaid' is the law's where the arguments, and the package variables that the reading takes, are together of bulk at most 1048576: NARROWER than '..Said'. Prove '..Said' where nothing that the law and all that it calls make is longer than what came in: it says more and counts as full. Else prove '..UptoSaid'. A law counts once. -/
mutual
def uptoBulk {H : Type} : DataW H → Nat
  | .lit (.string bytes) => bytes.length + 1
  | .lit _ => 1
  | .nil => 1
  | .ptr d => uptoBulk d + 1
  | .slice elems spare => uptoBulkAll elems + uptoBulkAll spare + 1
  | .agg parts => uptoBulkAll parts + 1
  | .iface _ d => uptoBulk d + 1
  | .map entries => uptoBulkEntries entries + 1
  | .held _ => 1
def uptoBulkAll {H : Type} : List (DataW H) → Nat
  | [] => 0
  | d :: r => uptoBulk d + uptoBulkAll r
def uptoBulkEntries {H : Type} : List (Lit × DataW H) → Nat
  | [] => 0
  | x :: r => uptoBulkEntry x + uptoBulkEntries r
def uptoBulkEntry {H : Type} : Lit × DataW H → Nat
  | (.string bytes, d) => bytes.length + uptoBulk d + 1
  | (_, d) => uptoBulk d + 1
 end
def uptoSmall : (H : Type) → List (DataW H) → Bool := fun _ ds => decide (uptoBulkAll ds ≤ 1048576)
def OpenSpec.upto (s : _root_.Go.ChangeSpec) : _root_.Go.OpenSpec := { _root_.Go.OpenSpec.ofChange s with cond := some uptoSmall }

/-- 'facetlaw14.AbsentIs', WHERE WHAT IT READS IS OF BULK AT MOST 1048576: true; the input reads as it did. -/
def absentIsUptoRow : OpenClaim := { program := "yteldhhdgihmocaa", sum := "9f51c59c26218570897314de68fa8cec3110f74cb178760d62b73c58f9714a7b", func := "facet/facetlaw14.AbsentIs", spec := "absentIs", unfollowed := true, recurses := true, plainKeys := false, apart := false, narrowed := true }
def AbsentIsUptoSaid : Prop := absentIsUptoRow.holds Try.pinned (OpenSpec.upto absentIsSpec)

/-- 'facetlaw14.AbsentSorts', WHERE WHAT IT READS IS OF BULK AT MOST 1048576: true; the input reads as it did. -/
def absentSortsUptoRow : OpenClaim := { program := "yteldhhdgihmocaa", sum := "9f51c59c26218570897314de68fa8cec3110f74cb178760d62b73c58f9714a7b", func := "facet/facetlaw14.AbsentSorts", spec := "absentSorts", unfollowed := true, recurses := true, plainKeys := false, apart := false, narrowed := true }
def AbsentSortsUptoSaid : Prop := absentSortsUptoRow.holds Try.pinned (OpenSpec.upto absentSortsSpec)

/-- 'facetlaw14.AbsentMemory', WHERE WHAT IT READS IS OF BULK AT MOST 1048576: true; the input reads as it did. -/
def absentMemoryUptoRow : OpenClaim := { program := "yteldhhdgihmocaa", sum := "9f51c59c26218570897314de68fa8cec3110f74cb178760d62b73c58f9714a7b", func := "facet/facetlaw14.AbsentMemory", spec := "absentMemory", unfollowed := true, recurses := true, plainKeys := false, apart := false, narrowed := true }
def AbsentMemoryUptoSaid : Prop := absentMemoryUptoRow.holds Try.pinned (OpenSpec.upto absentMemorySpec)

/-- 'facetlaw14.AbsentFixed', WHERE WHAT IT READS IS OF BULK AT MOST 1048576: true; the input reads as it did. -/
def absentFixedUptoRow : OpenClaim := { program := "yteldhhdgihmocaa", sum := "9f51c59c26218570897314de68fa8cec3110f74cb178760d62b73c58f9714a7b", func := "facet/facetlaw14.AbsentFixed", spec := "absentFixed", unfollowed := true, recurses := true, plainKeys := false, apart := false, narrowed := true }
def AbsentFixedUptoSaid : Prop := absentFixedUptoRow.holds Try.pinned (OpenSpec.upto absentFixedSpec)

/-- 'facetlaw14.AbsentParts', WHERE WHAT IT READS IS OF BULK AT MOST 1048576: true; the input reads as it did. -/
def absentPartsUptoRow : OpenClaim := { program := "yteldhhdgihmocaa", sum := "9f51c59c26218570897314de68fa8cec3110f74cb178760d62b73c58f9714a7b", func := "facet/facetlaw14.AbsentParts", spec := "absentParts", unfollowed := true, recurses := true, plainKeys := false, apart := false, narrowed := true }
def AbsentPartsUptoSaid : Prop := absentPartsUptoRow.holds Try.pinned (OpenSpec.upto absentPartsSpec)

/-- 'facetlaw14.AbsentSees', WHERE WHAT IT READS IS OF BULK AT MOST 1048576: true; the input reads as it did. -/
def absentSeesUptoRow : OpenClaim := { program := "yteldhhdgihmocaa", sum := "9f51c59c26218570897314de68fa8cec3110f74cb178760d62b73c58f9714a7b", func := "facet/facetlaw14.AbsentSees", spec := "absentSees", unfollowed := true, recurses := true, plainKeys := false, apart := false, narrowed := true }
def AbsentSeesUptoSaid : Prop := absentSeesUptoRow.holds Try.pinned (OpenSpec.upto absentSeesSpec)

/-- 'facetlaw14.AbsentTurns', WHERE WHAT IT READS IS OF BULK AT MOST 1048576: true; the input reads as it did. -/
def absentTurnsUptoRow : OpenClaim := { program := "yteldhhdgihmocaa", sum := "9f51c59c26218570897314de68fa8cec3110f74cb178760d62b73c58f9714a7b", func := "facet/facetlaw14.AbsentTurns", spec := "absentTurns", unfollowed := true, recurses := true, plainKeys := false, apart := false, narrowed := true }
def AbsentTurnsUptoSaid : Prop := absentTurnsUptoRow.holds Try.pinned (OpenSpec.upto absentTurnsSpec)

end Rows
end Go.Proofs.Yteldhhdgihmocaa
