/-
  Operators, classes, ReadCost: the walks.
-/
import Derived.Test.YtdiolobkcblcmaaW2
namespace Go.Proofs.Ytdiolobkcblcmaa
open Go.AM
set_option linter.unusedSimpArgs false
set_option linter.unusedVariables false

def inR (a b c : Int) : Bool := decide (b ≤ a ∧ a ≤ c)
theorem c_l1In (a b c : Int) : C f_spec_l1In [I a, I b, I c] [] = some (Bo (inR a b c), []) := by
  refine run t_spec_l1In rfl ?_
  by_cases h : b ≤ a <;> simp [M_spec_l1In, inR, h]
theorem c_within (a b c : Int) : C f_impl_within [I a, I b, I c] [] = some (Bo (inR a b c), []) := by
  refine run t_impl_within rfl ?_
  by_cases h : b ≤ a <;> simp [M_impl_within, inR, h]
attribute [simp] c_l1In c_within

def classSize (c : Int) : Int := if c < 0 then -1 else if c = 0 then 0 else if c = 1 then 1 else if c = 2 then 4 else if c = 3 then 16 else if c = 4 then 64 else if c = 5 then 256 else if c = 6 then 1024 else if c = 7 then 4096 else -1
theorem cls8 {c : Int} (h : inR c 0 7 = true) : c = 0 ∨ c = 1 ∨ c = 2 ∨ c = 3 ∨ c = 4 ∨ c = 5 ∨ c = 6 ∨ c = 7 := by
  simp [inR] at h; omega
theorem classSize_out {c : Int} (h : inR c 0 7 = false) : classSize c = -1 := by
  simp [inR] at h
  unfold classSize
  split
  · rfl
  · repeat' split
    all_goals omega

def sizeClass (n : Int) : Int := if n < 0 then -1 else if n ≤ 0 then 0 else if n ≤ 1 then 1 else if n ≤ 4 then 2 else if n ≤ 16 then 3 else if n ≤ 64 then 4 else if n ≤ 256 then 5 else if n ≤ 1024 then 6 else if n ≤ 4096 then 7 else -1
def roundUp (n : Int) : Int := classSize (sizeClass n)
theorem roundUp_neg (n : Int) : roundUp n < 0 ↔ inR n 0 4096 = false := by
  unfold roundUp sizeClass
  simp [inR]
  repeat' split
  all_goals simp [classSize]
  all_goals omega
end Go.Proofs.Ytdiolobkcblcmaa
