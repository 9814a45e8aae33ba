/-
  Parts of the proofs for this seat: G13 G14 G15.
-/
import Derived.Test.YthdihnbeifcppaaGreatP13
set_option linter.all false
set_option maxRecDepth 100000
set_option maxHeartbeats 4000000
namespace Go.Proofs.YthdihnbeifcppaaGreat
open Go.AM
