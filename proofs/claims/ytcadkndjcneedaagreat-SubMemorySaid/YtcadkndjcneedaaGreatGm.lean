/-
  A group without a map, with one twice, with two changed about is none.
-/
import Derived.Test.YtcadkndjcneedaaGreatGk
set_option linter.unusedSimpArgs false
set_option linter.unusedVariables false
set_option linter.unusedSectionVars false
namespace Go.Fx
open Go

def lessL (g : List Op3) (k : Nat) : List Op3 := g.take k ++ g.drop (k + 1)
def twcL (g : List Op3) (k : Nat) : List Op3 := g.take (k + 1) ++ g.drop k
section
variable {g : List Op3} (hc : chkE g = 0)
include hc
end
end Go.Fx
