/-
  Layer 5 in Lean: the example.
-/
import Derived.Test.YtcadkndjcneedaaGreatGd
set_option linter.unusedSimpArgs false
set_option linter.unusedVariables false
set_option linter.unusedSectionVars false
namespace Go.Fx
open Go
def turnO : Op3 := Op3.mk (M3.mk 0 (-1) 0 1 0 0 0 0 1) (V3.mk 0 0 6)
def shearO : Op3 := Op3.mk (M3.mk 1 1 0 0 1 0 0 0 1) (V3.mk 0 0 0)
def four : List Op3 := [Op3.mk (M3.mk (-1) 0 0 0 (-1) 0 0 0 1) (V3.mk 0 0 12), Op3.mk (M3.mk 0 (-1) 0 1 0 0 0 0 1) (V3.mk 0 0 6), Op3.mk (M3.mk 0 1 0 (-1) 0 0 0 0 1) (V3.mk 0 0 18), oneO]
set_option maxRecDepth 100000
end Go.Fx
