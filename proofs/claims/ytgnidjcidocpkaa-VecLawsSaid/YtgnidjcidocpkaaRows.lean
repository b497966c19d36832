/-
  No cell of these rows narrows 'for every input' (looked for: loops, veiled, ifaces, maps, wideKeys, modest, calm, conditions, laid).
  DERIVED. THE GIVEN ROWS OF THIS SEAT. 7 by the template 'for every input the law returns true; each argument reads behind the call as it read before'; 0 by the template 'total and deterministic' (their statements: YtgnidjcidocpkaaTotals.lean).
  GIVEN WITH THE SEED: the statements are not yours to turn. If you find one false, say at which input.
  Laid BY PROGRAM, IN A SANDBOX (cutbox-rows.mjs): the forced cells as the released guide's own fill.sh prints them over the translation 8c0a0e9d37bb8747… (all of the seat's roots in one cut). By AI agents, Wed Nov 11 2026. No macro, syntax, notation, axiom, sorry.
-/
import Derived.Test.YtgnidjcidocpkaaChecked
import GoSem.Claim
import GoSem.ClaimJoined
import GoSem.ClaimMapViews
import Derived.JoinedTies
import Derived.KernelRfl
namespace Go.Proofs.Ytgnidjcidocpkaa
/- THE CELL 'sum', in the pinned program and in every row, IS THE sha256 OF THE DUMP (.gsa) THAT YtgnidjcidocpkaaProg.lean LOADS. Nothing in Lean hashes anything: it is a label: what it is worth is what the hold of that sum in a sandbox is worth. -/
noncomputable def Try.pinned : Pinned := { name := "ytgnidjcidocpkaa", sum := "8c0a0e9d37bb8747b407cfce32907582ea1c2903f3c69c834477ca1215fb0ccb", checked := Try.checked }
namespace Rows
def none {H : Type} : Left H := { results := [], args := [] }

/-- 'facetlaw01.VecProducts': WHATEVER THE INPUT: true; the input reads as it did. -/
def vecProductsSpec : ChangeSpec := { name := "vecProducts", fn := fun _ => fun
  | [d1, d2, d3] => { results := [.lit (.bool true)], args := [d1, d2, d3] }
  | _ => none }
def vecProductsRow : OpenClaim := { program := "ytgnidjcidocpkaa", sum := "8c0a0e9d37bb8747b407cfce32907582ea1c2903f3c69c834477ca1215fb0ccb", func := "facet/facetlaw01.VecProducts", spec := "vecProducts", apart := false }
def VecProductsSaid : Prop := vecProductsRow.holds Try.pinned (OpenSpec.ofChange vecProductsSpec)

/-- ITS FALSE NEIGHBOUR: 'it returns false'. Refute it at one input. -/
def vecProductsWrong : ChangeSpec := { name := "vecProducts", fn := fun _ => fun
  | [d1, d2, d3] => { results := [.lit (.bool false)], args := [d1, d2, d3] }
  | _ => none }
def VecProductsWrongFalsely : Prop := vecProductsRow.holds Try.pinned (OpenSpec.ofChange vecProductsWrong)

/-- 'facetlaw01.VecCompares': WHATEVER THE INPUT: true; the input reads as it did. -/
def vecComparesSpec : ChangeSpec := { name := "vecCompares", fn := fun _ => fun
  | [d1, d2, d3] => { results := [.lit (.bool true)], args := [d1, d2, d3] }
  | _ => none }
def vecComparesRow : OpenClaim := { program := "ytgnidjcidocpkaa", sum := "8c0a0e9d37bb8747b407cfce32907582ea1c2903f3c69c834477ca1215fb0ccb", func := "facet/facetlaw01.VecCompares", spec := "vecCompares", apart := false }
def VecComparesSaid : Prop := vecComparesRow.holds Try.pinned (OpenSpec.ofChange vecComparesSpec)

/-- ITS FALSE NEIGHBOUR: 'it returns false'. Refute it at one input. -/
def vecComparesWrong : ChangeSpec := { name := "vecCompares", fn := fun _ => fun
  | [d1, d2, d3] => { results := [.lit (.bool false)], args := [d1, d2, d3] }
  | _ => none }
def VecComparesWrongFalsely : Prop := vecComparesRow.holds Try.pinned (OpenSpec.ofChange vecComparesWrong)

/-- 'facetlaw01.VecLaws': WHATEVER THE INPUT: true; the input reads as it did. -/
def vecLawsSpec : ChangeSpec := { name := "vecLaws", fn := fun _ => fun
  | [d1, d2, d3, d4, d5] => { results := [.lit (.bool true)], args := [d1, d2, d3, d4, d5] }
  | _ => none }
def vecLawsRow : OpenClaim := { program := "ytgnidjcidocpkaa", sum := "8c0a0e9d37bb8747b407cfce32907582ea1c2903f3c69c834477ca1215fb0ccb", func := "facet/facetlaw01.VecLaws", spec := "vecLaws", apart := false }
def VecLawsSaid : Prop := vecLawsRow.holds Try.pinned (OpenSpec.ofChange vecLawsSpec)

/-- ITS FALSE NEIGHBOUR: 'it returns false'. Refute it at one input. -/
def vecLawsWrong : ChangeSpec := { name := "vecLaws", fn := fun _ => fun
  | [d1, d2, d3, d4, d5] => { results := [.lit (.bool false)], args := [d1, d2, d3, d4, d5] }
  | _ => none }
def VecLawsWrongFalsely : Prop := vecLawsRow.holds Try.pinned (OpenSpec.ofChange vecLawsWrong)

/-- 'facetlaw01.VecOrders': WHATEVER THE INPUT: true; the input reads as it did. -/
def vecOrdersSpec : ChangeSpec := { name := "vecOrders", fn := fun _ => fun
  | [d] => { results := [.lit (.bool true)], args := [d] }
  | _ => none }
def vecOrdersRow : OpenClaim := { program := "ytgnidjcidocpkaa", sum := "8c0a0e9d37bb8747b407cfce32907582ea1c2903f3c69c834477ca1215fb0ccb", func := "facet/facetlaw01.VecOrders", spec := "vecOrders", apart := false }
def VecOrdersSaid : Prop := vecOrdersRow.holds Try.pinned (OpenSpec.ofChange vecOrdersSpec)

/-- ITS FALSE NEIGHBOUR: 'it returns false'. Refute it at one input. -/
def vecOrdersWrong : ChangeSpec := { name := "vecOrders", fn := fun _ => fun
  | [d] => { results := [.lit (.bool false)], args := [d] }
  | _ => none }
def VecOrdersWrongFalsely : Prop := vecOrdersRow.holds Try.pinned (OpenSpec.ofChange vecOrdersWrong)

/-- 'facetlaw01.VecPowers': WHATEVER THE INPUT: true; the input reads as it did. -/
def vecPowersSpec : ChangeSpec := { name := "vecPowers", fn := fun _ => fun
  | [d1, d2] => { results := [.lit (.bool true)], args := [d1, d2] }
  | _ => none }
def vecPowersRow : OpenClaim := { program := "ytgnidjcidocpkaa", sum := "8c0a0e9d37bb8747b407cfce32907582ea1c2903f3c69c834477ca1215fb0ccb", func := "facet/facetlaw01.VecPowers", spec := "vecPowers", apart := false }
def VecPowersSaid : Prop := vecPowersRow.holds Try.pinned (OpenSpec.ofChange vecPowersSpec)

/-- ITS FALSE NEIGHBOUR: 'it returns false'. Refute it at one input. -/
def vecPowersWrong : ChangeSpec := { name := "vecPowers", fn := fun _ => fun
  | [d1, d2] => { results := [.lit (.bool false)], args := [d1, d2] }
  | _ => none }
def VecPowersWrongFalsely : Prop := vecPowersRow.holds Try.pinned (OpenSpec.ofChange vecPowersWrong)

/-- 'facetlaw01.VecNumbers': WHATEVER THE INPUT: true; the input reads as it did. -/
def vecNumbersSpec : ChangeSpec := { name := "vecNumbers", fn := fun _ => fun
  | [d] => { results := [.lit (.bool true)], args := [d] }
  | _ => none }
def vecNumbersRow : OpenClaim := { program := "ytgnidjcidocpkaa", sum := "8c0a0e9d37bb8747b407cfce32907582ea1c2903f3c69c834477ca1215fb0ccb", func := "facet/facetlaw01.VecNumbers", spec := "vecNumbers", apart := false }
def VecNumbersSaid : Prop := vecNumbersRow.holds Try.pinned (OpenSpec.ofChange vecNumbersSpec)

/-- ITS FALSE NEIGHBOUR: 'it returns false'. Refute it at one input. -/
def vecNumbersWrong : ChangeSpec := { name := "vecNumbers", fn := fun _ => fun
  | [d] => { results := [.lit (.bool false)], args := [d] }
  | _ => none }
def VecNumbersWrongFalsely : Prop := vecNumbersRow.holds Try.pinned (OpenSpec.ofChange vecNumbersWrong)

/-- 'facetlaw01.VecAdjoins': WHATEVER THE INPUT: true; the input reads as it did. -/
def vecAdjoinsSpec : ChangeSpec := { name := "vecAdjoins", fn := fun _ => fun
  | [d] => { results := [.lit (.bool true)], args := [d] }
  | _ => none }
def vecAdjoinsRow : OpenClaim := { program := "ytgnidjcidocpkaa", sum := "8c0a0e9d37bb8747b407cfce32907582ea1c2903f3c69c834477ca1215fb0ccb", func := "facet/facetlaw01.VecAdjoins", spec := "vecAdjoins", apart := false }
def VecAdjoinsSaid : Prop := vecAdjoinsRow.holds Try.pinned (OpenSpec.ofChange vecAdjoinsSpec)

/-- ITS FALSE NEIGHBOUR: 'it returns false'. Refute it at one input. -/
def vecAdjoinsWrong : ChangeSpec := { name := "vecAdjoins", fn := fun _ => fun
  | [d] => { results := [.lit (.bool false)], args := [d] }
  | _ => none }
def VecAdjoinsWrongFalsely : Prop := vecAdjoinsRow.holds Try.pinned (OpenSpec.ofChange vecAdjoinsWrong)

/- THE SECOND FORM. 'bulk': how many values and letters a reading holds, each counted each time it is reached (what is shared counts as often as it is met; a slice's spare places count too). A statement '..UptoSaid' is the law's where the arguments, and the package variables that the reading takes, are together of bulk at most 1048576: NARROWER than '..Said'. Prove '..Said' where nothing that the law and all that it calls make is longer than what came in: it says more and counts as full. Else prove '..UptoSaid'. A law counts once. -/
mutual
def uptoBulk {H : Type} : DataW H → Nat
  | .lit (.string bytes) => bytes.length + 1
  | .lit _ => 1
  | .nil => 1
  | .ptr d => uptoBulk d + 1
  | .slice elems spare => uptoBulkAll elems + uptoBulkAll spare + 1
  | .agg parts => uptoBulkAll parts + 1
  | .iface _ d => uptoBulk d + 1
  | .map entries => uptoBulkEntries entries + 1
  | .held _ => 1
def uptoBulkAll {H : Type} : List (DataW H) → Nat
  | [] => 0
  | d :: r => uptoBulk d + uptoBulkAll r
def uptoBulkEntries {H : Type} : List (Lit × DataW H) → Nat
  | [] => 0
  | x :: r => uptoBulkEntry x + uptoBulkEntries r
def uptoBulkEntry {H : Type} : Lit × DataW H → Nat
  | (.string bytes, d) => bytes.length + uptoBulk d + 1
  | (_, d) => uptoBulk d + 1
 end
def uptoSmall : (H : Type) → List (DataW H) → Bool := fun _ ds => decide (uptoBulkAll ds ≤ 1048576)
def OpenSpec.upto (s : _root_.Go.ChangeSpec) : _root_.Go.OpenSpec := { _root_.Go.OpenSpec.ofChange s with cond := some uptoSmall }

/-- 'facetlaw01.VecProducts', WHERE WHAT IT READS IS OF BULK AT MOST 1048576: true; the input reads as it did. -/
def vecProductsUptoRow : OpenClaim := { program := "ytgnidjcidocpkaa", sum := "8c0a0e9d37bb8747b407cfce32907582ea1c2903f3c69c834477ca1215fb0ccb", func := "facet/facetlaw01.VecProducts", spec := "vecProducts", apart := false, narrowed := true }
def VecProductsUptoSaid : Prop := vecProductsUptoRow.holds Try.pinned (OpenSpec.upto vecProductsSpec)

/-- 'facetlaw01.VecCompares', WHERE WHAT IT READS IS OF BULK AT MOST 1048576: true; the input reads as it did. -/
def vecComparesUptoRow : OpenClaim := { program := "ytgnidjcidocpkaa", sum := "8c0a0e9d37bb8747b407cfce32907582ea1c2903f3c69c834477ca1215fb0ccb", func := "facet/facetlaw01.VecCompares", spec := "vecCompares", apart := false, narrowed := true }
def VecComparesUptoSaid : Prop := vecComparesUptoRow.holds Try.pinned (OpenSpec.upto vecComparesSpec)

/-- 'facetlaw01.VecLaws', WHERE WHAT IT READS IS OF BULK AT MOST 1048576: true; the input reads as it did. -/
def vecLawsUptoRow : OpenClaim := { program := "ytgnidjcidocpkaa", sum := "8c0a0e9d37bb8747b407cfce32907582ea1c2903f3c69c834477ca1215fb0ccb", func := "facet/facetlaw01.VecLaws", spec := "vecLaws", apart := false, narrowed := true }
def VecLawsUptoSaid : Prop := vecLawsUptoRow.holds Try.pinned (OpenSpec.upto vecLawsSpec)

/-- 'facetlaw01.VecOrders', WHERE WHAT IT READS IS OF BULK AT MOST 1048576: true; the input reads as it did. -/
def vecOrdersUptoRow : OpenClaim := { program := "ytgnidjcidocpkaa", sum := "8c0a0e9d37bb8747b407cfce32907582ea1c2903f3c69c834477ca1215fb0ccb", func := "facet/facetlaw01.VecOrders", spec := "vecOrders", apart := false, narrowed := true }
def VecOrdersUptoSaid : Prop := vecOrdersUptoRow.holds Try.pinned (OpenSpec.upto vecOrdersSpec)

/-- 'facetlaw01.VecPowers', WHERE WHAT IT READS IS OF BULK AT MOST 1048576: true; the input reads as it did. -/
def vecPowersUptoRow : OpenClaim := { program := "ytgnidjcidocpkaa", sum := "8c0a0e9d37bb8747b407cfce32907582ea1c2903f3c69c834477ca1215fb0ccb", func := "facet/facetlaw01.VecPowers", spec := "vecPowers", apart := false, narrowed := true }
def VecPowersUptoSaid : Prop := vecPowersUptoRow.holds Try.pinned (OpenSpec.upto vecPowersSpec)

/-- 'facetlaw01.VecNumbers', WHERE WHAT IT READS IS OF BULK AT MOST 1048576: true; the input reads as it did. -/
def vecNumbersUptoRow : OpenClaim := { program := "ytgnidjcidocpkaa", sum := "8c0a0e9d37bb8747b407cfce32907582ea1c2903f3c69c834477ca1215fb0ccb", func := "facet/facetlaw01.VecNumbers", spec := "vecNumbers", apart := false, narrowed := true }
def VecNumbersUptoSaid : Prop := vecNumbersUptoRow.holds Try.pinned (OpenSpec.upto vecNumbersSpec)

/-- 'facetlaw01.VecAdjoins', WHERE WHAT IT READS IS OF BULK AT MOST 1048576: true; the input reads as it did. -/
def vecAdjoinsUptoRow : OpenClaim := { program := "ytgnidjcidocpkaa", sum := "8c0a0e9d37bb8747b407cfce32907582ea1c2903f3c69c834477ca1215fb0ccb", func := "facet/facetlaw01.VecAdjoins", spec := "vecAdjoins", apart := false, narrowed := true }
def VecAdjoinsUptoSaid : Prop := vecAdjoinsUptoRow.holds Try.pinned (OpenSpec.upto vecAdjoinsSpec)

end Rows
end Go.Proofs.Ytgnidjcidocpkaa
