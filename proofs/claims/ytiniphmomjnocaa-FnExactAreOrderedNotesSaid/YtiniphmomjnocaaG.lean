/-
  A part of the proofs for this seat: G.
-/
import Derived.Test.YtiniphmomjnocaaG1
import Derived.Test.YtiniphmomjnocaaG2
import Derived.Test.YtiniphmomjnocaaG3
import Derived.Test.YtiniphmomjnocaaG4
