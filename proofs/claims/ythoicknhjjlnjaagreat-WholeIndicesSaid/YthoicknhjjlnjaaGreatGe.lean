/-
  Layer 5 in Lean: the example.
-/
import Derived.Test.YthoicknhjjlnjaaGreatGd
set_option linter.unusedSimpArgs false
set_option linter.unusedVariables false
set_option linter.unusedSectionVars false
namespace Go.Fx
open Go
def turnO : Op3 := Op3.mk (M3.mk 0 (-1) 0 1 0 0 0 0 1) (V3.mk 0 0 6)
def shearO : Op3 := Op3.mk (M3.mk 1 1 0 0 1 0 0 0 1) (V3.mk 0 0 0)
def four : List Op3 := [Op3.mk (M3.mk (-1) 0 0 0 (-1) 0 0 0 1) (V3.mk 0 0 12), Op3.mk (M3.mk 0 (-1) 0 1 0 0 0 0 1) (V3.mk 0 0 6), Op3.mk (M3.mk 0 1 0 (-1) 0 0 0 0 1) (V3.mk 0 0 18), oneO]
set_option maxRecDepth 100000
theorem aw1 : cloL [turnO] = four := by decide +kernel
theorem aw2 : cloE [turnO] = 0 := by decide +kernel
theorem aw3 : cloE [shearO] = 5 := by decide +kernel
theorem aw4 : fndI four (four.getD 2 zerO) = 2 := by decide +kernel
theorem aw5 : fndE four (four.getD 2 zerO) = 0 := by decide +kernel
theorem aw6 : invL four = [0, 2, 1, 3] := by decide +kernel
theorem aw7 : chkE four = 0 := by decide +kernel
theorem aw8 : chkE [] = 5 := by decide +kernel
end Go.Fx
