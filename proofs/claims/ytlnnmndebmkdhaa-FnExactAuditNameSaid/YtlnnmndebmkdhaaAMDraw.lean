/-
  A part of the proofs for this seat: AMDraw.
-/
import Derived.Test.YtlnnmndebmkdhaaAMCode
namespace Go.AM
open Go.RowKit (Below)
section
variable {P : Program} {N : Nat → Prop} {base : Nat} {w0 : World} {nt : Nat} {ts : List (Array Value)} {inl : List Nat}
end
end Go.AM
