/-
  Operators, classes, ReadCost: the walks.
-/
import Derived.Test.YtiniphmomjnocaaW1
namespace Go.Proofs.Ytiniphmomjnocaa
open Go.AM
set_option linter.unusedSimpArgs false
set_option linter.unusedVariables false

def inR (a b c : Int) : Bool := decide (b ≤ a ∧ a ≤ c)
theorem c_l1In (a b c : Int) : C f_spec_l1In [I a, I b, I c] [] = some (Bo (inR a b c), []) := by
  refine run t_spec_l1In rfl ?_
  by_cases h : b ≤ a <;> simp [M_spec_l1In, inR, h]
theorem c_within (a b c : Int) : C f_impl_within [I a, I b, I c] [] = some (Bo (inR a b c), []) := by
  refine run t_impl_within rfl ?_
  by_cases h : b ≤ a <;> simp [M_impl_within, inR, h]
attribute [simp] c_l1In c_within

def classSize (c : Int) : Int := if c < 0 then -1 else if c = 0 then 0 else if c = 1 then 1 else if c = 2 then 4 else if c = 3 then 16 else if c = 4 then 64 else if c = 5 then 256 else if c = 6 then 1024 else if c = 7 then 4096 else -1
theorem cls8 {c : Int} (h : inR c 0 7 = true) : c = 0 ∨ c = 1 ∨ c = 2 ∨ c = 3 ∨ c = 4 ∨ c = 5 ∨ c = 6 ∨ c = 7 := by
  simp [inR] at h; omega
theorem classSize_out {c : Int} (h : inR c 0 7 = false) : classSize c = -1 := by
  simp [inR] at h
  unfold classSize
  split
  · rfl
  · repeat' split
    all_goals omega

theorem c_spec_ClassSize (c : Int) : C f_spec_ClassSize [I c] [] = some (I (classSize c), []) := by
  refine run t_spec_ClassSize rfl ?_
  cases h : inR c 0 7
  · simp [M_spec_ClassSize, h, classSize_out h]
  · rcases cls8 h with rfl | rfl | rfl | rfl | rfl | rfl | rfl | rfl <;> simp [M_spec_ClassSize, inR, classSize, EvL_eq B_spec_ClassSize_0.eq_1, wrap64]
theorem c_impl_ClassSize (c : Int) : C f_impl_ClassSize [I c] [] = some (I (classSize c), []) := by
  refine run t_impl_ClassSize rfl ?_
  cases h : inR c 0 7
  · simp [M_impl_ClassSize, h, classSize_out h]
  · rcases cls8 h with rfl | rfl | rfl | rfl | rfl | rfl | rfl | rfl <;> simp [M_impl_ClassSize, inR, classSize, wrap64, IntKind.bits, shlI]
attribute [simp] c_spec_ClassSize c_impl_ClassSize

def sizeClass (n : Int) : Int := if n < 0 then -1 else if n ≤ 0 then 0 else if n ≤ 1 then 1 else if n ≤ 4 then 2 else if n ≤ 16 then 3 else if n ≤ 64 then 4 else if n ≤ 256 then 5 else if n ≤ 1024 then 6 else if n ≤ 4096 then 7 else -1
theorem c_spec_SizeClass (n : Int) : C f_spec_SizeClass [I n] [] = some (I (sizeClass n), []) := by
  refine run t_spec_SizeClass rfl ?_
  unfold sizeClass
  by_cases h0 : n < 0
  · simp [M_spec_SizeClass, h0]
  by_cases h1 : n ≤ 0
  · simp [M_spec_SizeClass, h0, h1, EvL_eq B_spec_SizeClass_0.eq_1, wrap64, classSize]
  by_cases h2 : n ≤ 1
  · simp [M_spec_SizeClass, h0, h1, h2, EvL_eq B_spec_SizeClass_0.eq_1, wrap64, classSize]
  by_cases h3 : n ≤ 4
  · simp [M_spec_SizeClass, h0, h1, h2, h3, EvL_eq B_spec_SizeClass_0.eq_1, wrap64, classSize]
  by_cases h4 : n ≤ 16
  · simp [M_spec_SizeClass, h0, h1, h2, h3, h4, EvL_eq B_spec_SizeClass_0.eq_1, wrap64, classSize]
  by_cases h5 : n ≤ 64
  · simp [M_spec_SizeClass, h0, h1, h2, h3, h4, h5, EvL_eq B_spec_SizeClass_0.eq_1, wrap64, classSize]
  by_cases h6 : n ≤ 256
  · simp [M_spec_SizeClass, h0, h1, h2, h3, h4, h5, h6, EvL_eq B_spec_SizeClass_0.eq_1, wrap64, classSize]
  by_cases h7 : n ≤ 1024
  · simp [M_spec_SizeClass, h0, h1, h2, h3, h4, h5, h6, h7, EvL_eq B_spec_SizeClass_0.eq_1, wrap64, classSize]
  by_cases h8 : n ≤ 4096
  · simp [M_spec_SizeClass, h0, h1, h2, h3, h4, h5, h6, h7, h8, EvL_eq B_spec_SizeClass_0.eq_1, wrap64, classSize]
  · simp [M_spec_SizeClass, h0, h1, h2, h3, h4, h5, h6, h7, h8, EvL_eq B_spec_SizeClass_0.eq_1, wrap64, classSize]
theorem c_impl_SizeClass (n : Int) : C f_impl_SizeClass [I n] [] = some (I (sizeClass n), []) := by
  refine run t_impl_SizeClass rfl ?_
  unfold sizeClass
  by_cases h0 : n < 0
  · have : inR n 0 4096 = false := by simp [inR]; omega
    simp [M_impl_SizeClass, h0, this]
  by_cases h8 : n ≤ 4096
  · have hr : inR n 0 4096 = true := by simp [inR]; omega
    by_cases h1 : n ≤ 0
    · simp [M_impl_SizeClass, hr, h0, h1, EvL_eq B_impl_SizeClass_0.eq_1, wrap64, classSize]
    by_cases h2 : n ≤ 1
    · simp [M_impl_SizeClass, hr, h0, h1, h2, EvL_eq B_impl_SizeClass_0.eq_1, wrap64, classSize]
    by_cases h3 : n ≤ 4
    · simp [M_impl_SizeClass, hr, h0, h1, h2, h3, EvL_eq B_impl_SizeClass_0.eq_1, wrap64, classSize]
    by_cases h4 : n ≤ 16
    · simp [M_impl_SizeClass, hr, h0, h1, h2, h3, h4, EvL_eq B_impl_SizeClass_0.eq_1, wrap64, classSize]
    by_cases h5 : n ≤ 64
    · simp [M_impl_SizeClass, hr, h0, h1, h2, h3, h4, h5, EvL_eq B_impl_SizeClass_0.eq_1, wrap64, classSize]
    by_cases h6 : n ≤ 256
    · simp [M_impl_SizeClass, hr, h0, h1, h2, h3, h4, h5, h6, EvL_eq B_impl_SizeClass_0.eq_1, wrap64, classSize]
    by_cases h7 : n ≤ 1024
    · simp [M_impl_SizeClass, hr, h0, h1, h2, h3, h4, h5, h6, h7, EvL_eq B_impl_SizeClass_0.eq_1, wrap64, classSize]
    · simp [M_impl_SizeClass, hr, h0, h1, h2, h3, h4, h5, h6, h7, h8, EvL_eq B_impl_SizeClass_0.eq_1, wrap64, classSize]
  · have : inR n 0 4096 = false := by simp [inR]; omega
    have q : ¬ n ≤ 0 ∧ ¬ n ≤ 1 ∧ ¬ n ≤ 4 ∧ ¬ n ≤ 16 ∧ ¬ n ≤ 64 ∧ ¬ n ≤ 256 ∧ ¬ n ≤ 1024 := by omega
    simp [M_impl_SizeClass, h0, this, h8, q]
attribute [simp] c_spec_SizeClass c_impl_SizeClass

def roundUp (n : Int) : Int := classSize (sizeClass n)
@[simp] theorem c_spec_RoundUpSize (n : Int) : C f_spec_RoundUpSize [I n] [] = some (I (roundUp n), []) := by
  refine run t_spec_RoundUpSize rfl ?_
  simp [M_spec_RoundUpSize, roundUp]
@[simp] theorem c_impl_RoundUpSize (n : Int) : C f_impl_RoundUpSize [I n] [] = some (I (roundUp n), []) := by
  refine run t_impl_RoundUpSize rfl ?_
  simp [M_impl_RoundUpSize, roundUp]
theorem roundUp_neg (n : Int) : roundUp n < 0 ↔ inR n 0 4096 = false := by
  unfold roundUp sizeClass
  simp [inR]
  repeat' split
  all_goals simp [classSize]
  all_goals omega
end Go.Proofs.Ytiniphmomjnocaa
