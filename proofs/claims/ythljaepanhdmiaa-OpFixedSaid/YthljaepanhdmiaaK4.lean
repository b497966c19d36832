/-
  Contracts: .
-/
import Derived.Test.YthljaepanhdmiaaK3
namespace Go.Fx
open Go Go.Proofs
set_option maxRecDepth 100000
set_option linter.unusedVariables false

end Go.Fx
