/-
  EqualRegions and OldestEntry: the walks.
-/
import Derived.Test.YtdiolobkcblcmaaW1
namespace Go.Proofs.Ytdiolobkcblcmaa
open Go.AM
set_option linter.unusedSimpArgs false
set_option linter.unusedVariables false

theorem l_spec_EqualPlans (xs ys : List PlanStep) (hx : Le xs) (hl : ys.length = xs.length) (fr : List Fr) : ∀ i, i ≤ xs.length →
    EvL C fr [2, 3, 5] B_spec_EqualPlans_0 ⟨[(2, .ptr 0 0), (3, .ptr 1 0), (5, I i)], [[]], [.box [L 3 (xs.map PlanStep.c)], .box [L 3 (ys.map PlanStep.c)]]⟩ =
    if xs.drop i = ys.drop i then EvX C fr (.x 0) ⟨[(2, .ptr 0 0), (3, .ptr 1 0), (5, I xs.length), (17, Bo false)], [[]], [.box [L 3 (xs.map PlanStep.c)], .box [L 3 (ys.map PlanStep.c)]]⟩
    else EvX C fr .r ⟨[(4, Bo false)], [[]], [.box [L 3 (xs.map PlanStep.c)], .box [L 3 (ys.map PlanStep.c)]]⟩ := by
  refine down _ ?_ ?_
  · rw [EvL_eq B_spec_EqualPlans_0.eq_1]
    simp [hl, List.drop_eq_nil_of_le]
  · intro i hi ih
    have hi2 : i < ys.length := by omega
    have h4 := inc64 (i := i) (by omega)
    rw [EvL_eq B_spec_EqualPlans_0.eq_1]
    simp at ih
    simp +decide [hi, hi2, h4]
    simp only [drop_eq_iff hi hi2, ih, PlanStep.ext_iff]
    split <;> first | (simp_all; done) | grind
theorem c_spec_EqualPlans (xs ys : List PlanStep) (hx : Le xs) : C f_spec_EqualPlans [.agg [L 3 (xs.map PlanStep.c)], .agg [L 3 (ys.map PlanStep.c)]] [] = some (Bo (decide (xs = ys)), []) := by
  refine run t_spec_EqualPlans rfl ?_
  by_cases hl : ys.length = xs.length
  · have h3 := fun fr => l_spec_EqualPlans xs ys hx hl fr 0 (Nat.zero_le _)
    simp at h3
    simp [M_spec_EqualPlans, h3, hl]
    split <;> simp_all
  · have h1 : xs ≠ ys := fun h => hl (by rw [h])
    have h2 : ¬ ((xs.length : Int) = ys.length) := by omega
    simp [M_spec_EqualPlans, h1, h2]
theorem c_impl_EqualPlans (xs ys : List PlanStep) (hx : Le xs) : C f_impl_EqualPlans [.agg [L 3 (xs.map PlanStep.c)], .agg [L 3 (ys.map PlanStep.c)]] [] = some (Bo (decide (xs = ys)), []) := by
  refine run t_impl_EqualPlans rfl ?_
  simp [M_impl_EqualPlans, c_slices_Equal_PlanStep _ _ hx]
theorem c_spec_EqualBoxes (a b a' b' : List Int) (ha : Le a) (hb : Le b) : C f_spec_EqualBoxes [.agg [.t (tI a), .t (tI b)], .agg [.t (tI a'), .t (tI b')]] [] = some (Bo (decide (a = a' ∧ b = b')), []) := by
  refine run t_spec_EqualBoxes rfl ?_
  by_cases hc : a = a'
  · subst hc; simp [M_spec_EqualBoxes, c_CompareRows _ _ ha, c_CompareRows _ _ hb, cmpRows_zero, (cmpRows_zero _ _).2]
  · have : ¬ cmpRows a a' = 0 := fun h => hc ((cmpRows_zero a a').1 h)
    simp [M_spec_EqualBoxes, c_CompareRows _ _ ha, this, hc]
theorem c_impl_EqualBoxes (a b a' b' : List Int) (ha : Le a) (hb : Le b) : C f_impl_EqualBoxes [.agg [.t (tI a), .t (tI b)], .agg [.t (tI a'), .t (tI b')]] [] = some (Bo (decide (a = a' ∧ b = b')), []) := by
  refine run t_impl_EqualBoxes rfl ?_
  by_cases hc : a = a'
  · subst hc; simp [M_impl_EqualBoxes, c_slices_Equal_int _ _ ha, c_slices_Equal_int _ _ hb]
  · simp [M_impl_EqualBoxes, c_slices_Equal_int _ _ ha, hc]
theorem c_spec_EqualRegions (p : List PlanStep) (a b : List Int) (n : Int) (p' : List PlanStep) (a' b' : List Int) (n' : Int) (hp : Le p) (ha : Le a) (hb : Le b) :
    C f_spec_EqualRegions [.agg [L 3 (p.map PlanStep.c), .t (tI a), .t (tI b), I n], .agg [L 3 (p'.map PlanStep.c), .t (tI a'), .t (tI b'), I n']] [] = some (Bo (decide (p = p' ∧ a = a' ∧ b = b' ∧ n = n')), []) := by
  refine run t_spec_EqualRegions rfl ?_
  by_cases h1 : p = p'
  · subst h1
    by_cases h2 : a = a' ∧ b = b'
    · obtain ⟨rfl, rfl⟩ := h2
      simp [M_spec_EqualRegions, c_spec_EqualPlans _ _ hp, c_spec_EqualBoxes _ _ _ _ ha hb]
    · simp [M_spec_EqualRegions, c_spec_EqualPlans _ _ hp, c_spec_EqualBoxes _ _ _ _ ha hb, h2]
      grind
  · simp [M_spec_EqualRegions, c_spec_EqualPlans _ _ hp, h1]
theorem c_impl_EqualRegions (p : List PlanStep) (a b : List Int) (n : Int) (p' : List PlanStep) (a' b' : List Int) (n' : Int) (hp : Le p) (ha : Le a) (hb : Le b) :
    C f_impl_EqualRegions [.agg [L 3 (p.map PlanStep.c), .t (tI a), .t (tI b), I n], .agg [L 3 (p'.map PlanStep.c), .t (tI a'), .t (tI b'), I n']] [] = some (Bo (decide (p = p' ∧ a = a' ∧ b = b' ∧ n = n')), []) := by
  refine run t_impl_EqualRegions rfl ?_
  by_cases h1 : p = p'
  · subst h1
    by_cases h2 : a = a' ∧ b = b'
    · obtain ⟨rfl, rfl⟩ := h2
      simp [M_impl_EqualRegions, c_impl_EqualPlans _ _ hp, c_impl_EqualBoxes _ _ _ _ ha hb]
    · simp [M_impl_EqualRegions, c_impl_EqualPlans _ _ hp, c_impl_EqualBoxes _ _ _ _ ha hb, h2]
      grind
  · simp [M_impl_EqualRegions, c_impl_EqualPlans _ _ hp, h1]

/-! ### OldestEntry -/
def bI : Option Nat → Int
  | none => -1
  | some k => k
def oldStep (es : List CacheEntry) (i : Nat) : Option Nat → Option Nat
  | none => some i
  | some k => match es[i]?, es[k]? with
    | some x, some y => if x.Used < y.Used then some i else some k
    | _, _ => none
def oldFrom (es : List CacheEntry) : Nat → Nat → Option Nat → Option Nat
  | 0, _, b => b
  | n + 1, i, b => oldFrom es n (i + 1) (oldStep es i b)

theorem oldStep_lt {es : List CacheEntry} {i : Nat} {b : Option Nat} (hi : i < es.length) (hb : ∀ k, b = some k → k < es.length) : ∀ k, oldStep es i b = some k → k < es.length := by
  intro k hk
  cases b with
  | none => simp [oldStep] at hk; omega
  | some j =>
    have := hb j rfl
    simp [oldStep, hi, this] at hk
    split at hk <;> simp at hk <;> omega

/-! ### the laws -/
end Go.Proofs.Ytdiolobkcblcmaa
