/-
  EqualRegions and OldestEntry: the walks.
-/
import Derived.Test.YtlnnmndebmkdhaaW1
namespace Go.Proofs.Ytlnnmndebmkdhaa
open Go.AM
set_option linter.unusedSimpArgs false
set_option linter.unusedVariables false

theorem l_spec_EqualPlans (xs ys : List PlanStep) (hx : Le xs) (hl : ys.length = xs.length) (fr : List Fr) : ∀ i, i ≤ xs.length →
    EvL C fr [2, 3, 5] B_spec_EqualPlans_0 ⟨[(2, .ptr 0 0), (3, .ptr 1 0), (5, I i)], [], [.box [L 3 (xs.map PlanStep.c)], .box [L 3 (ys.map PlanStep.c)]]⟩ =
    if xs.drop i = ys.drop i then EvX C fr (.x 0) ⟨[(2, .ptr 0 0), (3, .ptr 1 0), (5, I xs.length), (17, Bo false)], [], [.box [L 3 (xs.map PlanStep.c)], .box [L 3 (ys.map PlanStep.c)]]⟩
    else EvX C fr .r ⟨[(4, Bo false)], [], [.box [L 3 (xs.map PlanStep.c)], .box [L 3 (ys.map PlanStep.c)]]⟩ := by
  refine down _ ?_ ?_
  · rw [EvL_eq B_spec_EqualPlans_0.eq_1]
    simp [hl, List.drop_eq_nil_of_le]
  · intro i hi ih
    have hi2 : i < ys.length := by omega
    have h4 := inc64 (i := i) (by omega)
    rw [EvL_eq B_spec_EqualPlans_0.eq_1]
    simp at ih
    simp +decide [hi, hi2, h4]
    simp only [drop_eq_iff hi hi2, ih, PlanStep.ext_iff]
    split <;> first | (simp_all; done) | grind
theorem c_spec_EqualPlans (xs ys : List PlanStep) (hx : Le xs) : C f_spec_EqualPlans [.agg [L 3 (xs.map PlanStep.c)], .agg [L 3 (ys.map PlanStep.c)]] = some (Bo (decide (xs = ys)), []) := by
  refine run t_spec_EqualPlans rfl ?_
  by_cases hl : ys.length = xs.length
  · have h3 := fun fr => l_spec_EqualPlans xs ys hx hl fr 0 (Nat.zero_le _)
    simp at h3
    simp [M_spec_EqualPlans, h3, hl]
    split <;> simp_all
  · have h1 : xs ≠ ys := fun h => hl (by rw [h])
    have h2 : ¬ ((xs.length : Int) = ys.length) := by omega
    simp [M_spec_EqualPlans, h1, h2]
theorem c_impl_EqualPlans (xs ys : List PlanStep) (hx : Le xs) : C f_impl_EqualPlans [.agg [L 3 (xs.map PlanStep.c)], .agg [L 3 (ys.map PlanStep.c)]] = some (Bo (decide (xs = ys)), []) := by
  refine run t_impl_EqualPlans rfl ?_
  simp [M_impl_EqualPlans, c_slices_Equal_PlanStep _ _ hx]
theorem c_spec_EqualBoxes (a b a' b' : List Int) (ha : Le a) (hb : Le b) : C f_spec_EqualBoxes [.agg [.t (tI a), .t (tI b)], .agg [.t (tI a'), .t (tI b')]] = some (Bo (decide (a = a' ∧ b = b')), []) := by
  refine run t_spec_EqualBoxes rfl ?_
  by_cases hc : a = a'
  · subst hc; simp [M_spec_EqualBoxes, c_CompareRows _ _ ha, c_CompareRows _ _ hb, cmpRows_zero, (cmpRows_zero _ _).2]
  · have : ¬ cmpRows a a' = 0 := fun h => hc ((cmpRows_zero a a').1 h)
    simp [M_spec_EqualBoxes, c_CompareRows _ _ ha, this, hc]
theorem c_impl_EqualBoxes (a b a' b' : List Int) (ha : Le a) (hb : Le b) : C f_impl_EqualBoxes [.agg [.t (tI a), .t (tI b)], .agg [.t (tI a'), .t (tI b')]] = some (Bo (decide (a = a' ∧ b = b')), []) := by
  refine run t_impl_EqualBoxes rfl ?_
  by_cases hc : a = a'
  · subst hc; simp [M_impl_EqualBoxes, c_slices_Equal_int _ _ ha, c_slices_Equal_int _ _ hb]
  · simp [M_impl_EqualBoxes, c_slices_Equal_int _ _ ha, hc]
theorem c_spec_EqualRegions (p : List PlanStep) (a b : List Int) (n : Int) (p' : List PlanStep) (a' b' : List Int) (n' : Int) (hp : Le p) (ha : Le a) (hb : Le b) :
    C f_spec_EqualRegions [.agg [L 3 (p.map PlanStep.c), .t (tI a), .t (tI b), I n], .agg [L 3 (p'.map PlanStep.c), .t (tI a'), .t (tI b'), I n']] = some (Bo (decide (p = p' ∧ a = a' ∧ b = b' ∧ n = n')), []) := by
  refine run t_spec_EqualRegions rfl ?_
  by_cases h1 : p = p'
  · subst h1
    by_cases h2 : a = a' ∧ b = b'
    · obtain ⟨rfl, rfl⟩ := h2
      simp [M_spec_EqualRegions, c_spec_EqualPlans _ _ hp, c_spec_EqualBoxes _ _ _ _ ha hb]
    · simp [M_spec_EqualRegions, c_spec_EqualPlans _ _ hp, c_spec_EqualBoxes _ _ _ _ ha hb, h2]
      grind
  · simp [M_spec_EqualRegions, c_spec_EqualPlans _ _ hp, h1]
theorem c_impl_EqualRegions (p : List PlanStep) (a b : List Int) (n : Int) (p' : List PlanStep) (a' b' : List Int) (n' : Int) (hp : Le p) (ha : Le a) (hb : Le b) :
    C f_impl_EqualRegions [.agg [L 3 (p.map PlanStep.c), .t (tI a), .t (tI b), I n], .agg [L 3 (p'.map PlanStep.c), .t (tI a'), .t (tI b'), I n']] = some (Bo (decide (p = p' ∧ a = a' ∧ b = b' ∧ n = n')), []) := by
  refine run t_impl_EqualRegions rfl ?_
  by_cases h1 : p = p'
  · subst h1
    by_cases h2 : a = a' ∧ b = b'
    · obtain ⟨rfl, rfl⟩ := h2
      simp [M_impl_EqualRegions, c_impl_EqualPlans _ _ hp, c_impl_EqualBoxes _ _ _ _ ha hb]
    · simp [M_impl_EqualRegions, c_impl_EqualPlans _ _ hp, c_impl_EqualBoxes _ _ _ _ ha hb, h2]
      grind
  · simp [M_impl_EqualRegions, c_impl_EqualPlans _ _ hp, h1]

/-! ### OldestEntry -/
def bI : Option Nat → Int
  | none => -1
  | some k => k
def oldStep (es : List CacheEntry) (i : Nat) : Option Nat → Option Nat
  | none => some i
  | some k => match es[i]?, es[k]? with
    | some x, some y => if x.Used < y.Used then some i else some k
    | _, _ => none
def oldFrom (es : List CacheEntry) : Nat → Nat → Option Nat → Option Nat
  | 0, _, b => b
  | n + 1, i, b => oldFrom es n (i + 1) (oldStep es i b)

theorem oldStep_lt {es : List CacheEntry} {i : Nat} {b : Option Nat} (hi : i < es.length) (hb : ∀ k, b = some k → k < es.length) : ∀ k, oldStep es i b = some k → k < es.length := by
  intro k hk
  cases b with
  | none => simp [oldStep] at hk; omega
  | some j =>
    have := hb j rfl
    simp [oldStep, hi, this] at hk
    split at hk <;> simp at hk <;> omega

theorem l_spec_OldestEntry (cl : Int) (es : List CacheEntry) (he : Le es) (fr : List Fr) : ∀ i, i ≤ es.length → ∀ b, (∀ k, b = some k → k < es.length) →
    EvL C fr [1, 3, 4] B_spec_OldestEntry_0 ⟨[(1, .ptr 0 0), (3, I (bI b)), (4, I i)], [], [.box [I cl, L 8 (es.map CacheEntry.c)]]⟩ =
    EvX C fr (.x 0) ⟨[(1, .ptr 0 0), (3, I (bI (oldFrom es (es.length - i) i b))), (4, I es.length), (9, Bo false)], [], [.box [I cl, L 8 (es.map CacheEntry.c)]]⟩ := by
  refine down _ ?_ ?_
  · intro b hb
    rw [EvL_eq B_spec_OldestEntry_0.eq_1]
    simp [oldFrom]
  · intro i hi ih b hb
    have h4 := inc64 (i := i) (by omega)
    have e : es.length - i = (es.length - (i + 1)) + 1 := by omega
    rw [EvL_eq B_spec_OldestEntry_0.eq_1, e, oldFrom, ← ih _ (oldStep_lt hi hb)]
    cases b with
    | none => simp +decide [hi, h4, bI, oldStep]
    | some k =>
      have hk := hb k rfl
      have hk0 : ¬ ((k : Int) < 0) := by omega
      by_cases hc : es[i].Used < es[k].Used
      · simp +decide [hi, hk, h4, bI, oldStep, hk0, hc]
      · simp +decide [hi, hk, h4, bI, oldStep, hk0, hc]
theorem c_spec_OldestEntry (cl : Int) (es : List CacheEntry) (he : Le es) : C f_spec_OldestEntry [.agg [I cl, L 8 (es.map CacheEntry.c)]] = some (I (bI (oldFrom es es.length 0 none)), []) := by
  refine run t_spec_OldestEntry rfl ?_
  have h3 := fun fr => l_spec_OldestEntry cl es he fr 0 (Nat.zero_le _) none (fun k hk => by cases hk)
  simp [bI] at h3
  simp [M_spec_OldestEntry, h3, bI]

theorem l_impl_OldestEntry (cl : Int) (es : List CacheEntry) (he : Le es) (fr : List Fr) : ∀ i, i ≤ es.length → ∀ b, (∀ k, b = some k → k < es.length) →
    EvL C fr [1, 3, 7, 8, 9] B_impl_OldestEntry_0 ⟨[(1, .ptr 0 0), (3, I (bI b)), (7, L 8 (es.map CacheEntry.c)), (8, I es.length), (9, I i)], [], [.box [I cl, L 8 (es.map CacheEntry.c)]]⟩ =
    EvX C fr (.x 0) ⟨[(1, .ptr 0 0), (3, I (bI (oldFrom es (es.length - i) i b))), (7, L 8 (es.map CacheEntry.c)), (8, I es.length), (9, I es.length), (10, Bo false)], [], [.box [I cl, L 8 (es.map CacheEntry.c)]]⟩ := by
  refine down _ ?_ ?_
  · intro b hb
    rw [EvL_eq B_impl_OldestEntry_0.eq_1]
    simp [oldFrom]
  · intro i hi ih b hb
    have h4 := inc64 (i := i) (by omega)
    have e : es.length - i = (es.length - (i + 1)) + 1 := by omega
    rw [EvL_eq B_impl_OldestEntry_0.eq_1, e, oldFrom, ← ih _ (oldStep_lt hi hb)]
    cases b with
    | none => simp +decide [hi, h4, bI, oldStep]
    | some k =>
      have hk := hb k rfl
      have hk0 : ¬ ((k : Int) < 0) := by omega
      by_cases hc : es[i].Used < es[k].Used
      · simp +decide [hi, hk, h4, bI, oldStep, hk0, hc]
      · simp +decide [hi, hk, h4, bI, oldStep, hk0, hc]
theorem c_impl_OldestEntry (cl : Int) (es : List CacheEntry) (he : Le es) : C f_impl_OldestEntry [.agg [I cl, L 8 (es.map CacheEntry.c)]] = some (I (bI (oldFrom es es.length 0 none)), []) := by
  refine run t_impl_OldestEntry rfl ?_
  have h3 := fun fr => l_impl_OldestEntry cl es he fr 0 (Nat.zero_le _) none (fun k hk => by cases hk)
  simp [bI] at h3
  simp [M_impl_OldestEntry, h3, bI]

/-! ### the laws -/
theorem lawEqualRegions (a b : Region) (ha : a.okay) (hb : b.okay) : C f_laws_FnExactEqualRegions [.agg (a.c.map .t), .agg (b.c.map .t)] = some (Bo true, []) := by
  refine run t_laws_FnExactEqualRegions rfl ?_
  have e1 := c_szRegion a.Plan.Steps a.Box.Low a.Box.High a.Percent 1048576
  have e2 := fun l => c_szRegion b.Plan.Steps b.Box.Low b.Box.High b.Percent l
  by_cases h1 : Region.sz a 1048576 < 0
  · simp [M_laws_FnExactEqualRegions, e1, h1]
  · obtain ⟨g1, g2, g3, g4⟩ := Region.sz_ok a 1048576 ha (by omega) (by omega) (by omega)
    by_cases h2 : Region.sz b (Region.sz a 1048576) < 0
    · simp [M_laws_FnExactEqualRegions, e1, h1, e2, h2]
    · obtain ⟨k1, k2, k3, k4⟩ := Region.sz_ok b _ hb (by omega) (by omega) (by omega : 0 ≤ Region.sz b (Region.sz a 1048576))
      have n1 : Le a.Plan.Steps := by omega
      have n2 : Le a.Box.Low := by omega
      have n3 : Le a.Box.High := by omega
      have t1 := c_toRegion a.Plan.Steps a.Box.Low a.Box.High a.Percent g2 g3 g4
      have t2 := c_toRegion b.Plan.Steps b.Box.Low b.Box.High b.Percent k2 k3 k4
      have q1 := fun x0 x1 x2 x3 => c_eqRegion a.Plan.Steps a.Box.Low a.Box.High a.Percent x0 x1 x2 x3 g2 g3 g4
      have q2 := fun x0 x1 x2 x3 => c_eqRegion b.Plan.Steps b.Box.Low b.Box.High b.Percent x0 x1 x2 x3 k2 k3 k4
      simp +decide [M_laws_FnExactEqualRegions, e1, h1, e2, h2, t1, t2, c_spec_EqualRegions _ _ _ _ _ _ _ _ n1 n2 n3, c_impl_EqualRegions _ _ _ _ _ _ _ _ n1 n2 n3, q1, q2]

theorem lawOldestEntry (a : PlanCache) (ha : a.okay) : C f_laws_FnExactOldestEntry [.agg (a.c.map .t)] = some (Bo true, []) := by
  refine run t_laws_FnExactOldestEntry rfl ?_
  have e1 := c_szPlanCache a.Clock a.Entries 1048576 ha.2
  by_cases h1 : PlanCache.sz a 1048576 < 0
  · simp [M_laws_FnExactOldestEntry, e1, h1]
  · obtain ⟨g1, g2⟩ := PlanCache.sz_ok a 1048576 ha (by omega) (by omega) (by omega)
    have n1 : Le a.Entries := by have := g2.1; omega
    have t1 := c_toPlanCache a.Clock a.Entries g2
    have q1 := fun x0 x1 => c_eqPlanCache a.Clock a.Entries x0 x1 g2
    simp +decide [M_laws_FnExactOldestEntry, e1, h1, t1, c_spec_OldestEntry _ _ n1, c_impl_OldestEntry _ _ n1, q1]
end Go.Proofs.Ytlnnmndebmkdhaa
