/-
  Layer 5 in Lean: rounds over lists that are alike.
-/
import Derived.Test.YtcadkndjcneedaaGreatGe
set_option linter.unusedSimpArgs false
set_option linter.unusedVariables false
set_option linter.unusedSectionVars false
namespace Go.Fx
open Go
def rgP (n i : Int) : Prop := 0 ≤ i ∧ i ≤ n
def rgMu (n i : Int) : Int := n - i
def rchO (l : List Op3) : Prop := l.length * 96 ≤ reach
end Go.Fx
