/-
  Parts of the proofs for this seat: TY.
-/
import Derived.Test.YtgbipcfdgfjplaaGreatP4
set_option linter.unusedSectionVars false
set_option linter.unusedSimpArgs false
set_option linter.unusedVariables false
set_option maxRecDepth 100000
set_option maxHeartbeats 4000000
namespace Go.Proofs.YtgbipcfdgfjplaaGreat
open Go.AM
end Go.Proofs.YtgbipcfdgfjplaaGreat
