/-
  Contracts: .
-/
import Derived.Test.YtlhkgleaeoaokaaK3
namespace Go.Fx
open Go Go.Proofs
set_option maxRecDepth 100000
set_option linter.unusedVariables false
set_option linter.unusedSimpArgs false
set_option linter.unusedSectionVars false

end Go.Fx
