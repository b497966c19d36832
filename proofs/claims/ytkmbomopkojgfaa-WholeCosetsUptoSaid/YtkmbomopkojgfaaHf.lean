/-
  WholeCosets: how long its lists may be; the least group.
-/
import Derived.Test.YtkmbomopkojgfaaHd
set_option linter.unusedSimpArgs false
set_option linter.unusedVariables false
set_option linter.unusedSectionVars false
namespace Go.Fx
open Go
def wcP (l m : List Sd) : Prop := (l.length + m.length) * 6 ≤ 140737488355328
theorem on1 : clC [oneO] = [[0]] ∧ chkE [oneO] = 0 := by decide +kernel
end Go.Fx
