/-
  Parts of the proofs for this seat: TY.
-/
import Derived.Test.YtggcnlojfngdeaaGreatP4
set_option linter.all false
set_option maxRecDepth 100000
set_option maxHeartbeats 4000000
namespace Go.Proofs.YtggcnlojfngdeaaGreat
open Go.AM
