/-
  EqualCaches: the walks and the law.
-/
import Derived.Test.YtdiolobkcblcmaaW11
namespace Go.Proofs.Ytdiolobkcblcmaa
open Go.AM
set_option linter.unusedSimpArgs false
set_option linter.unusedVariables false

abbrev LeE (x : CacheEntry) : Prop := LeQ x.Query.Atoms ∧ Le x.Region.Plan.Steps ∧ Le x.Region.Box.Low ∧ Le x.Region.Box.High

theorem c_equalEntries (x0 : Int) (x1 : List Atom) (x2 : List PlanStep) (x3 : List Int) (x4 : List Int) (x5 : Int) (x6 : Int) (x7 : Int) (y0 : Int) (y1 : List Atom) (y2 : List PlanStep) (y3 : List Int) (y4 : List Int) (y5 : Int) (y6 : Int) (y7 : Int) (h1 : LeQ x1) (h2 : Le x2) (h3 : Le x3) (h4 : Le x4) : C f_impl_equalEntries [.agg [I x0, .t (.lst 2 (x1.map Atom.c)), .t (.lst 3 (x2.map PlanStep.c)), .t (tI x3), .t (tI x4), I x5, I x6, I x7], .agg [I y0, .t (.lst 2 (y1.map Atom.c)), .t (.lst 3 (y2.map PlanStep.c)), .t (tI y3), .t (tI y4), I y5, I y6, I y7]] [] = some (Bo (decide (x0 = y0 ∧ x1 = y1 ∧ x2 = y2 ∧ x3 = y3 ∧ x4 = y4 ∧ x5 = y5 ∧ x6 = y6 ∧ x7 = y7)), []) := by
  refine run t_impl_equalEntries rfl ?_
  have q1 := c_impl_EqualQueries x0 x1 y0 y1 h1
  have q2 := c_impl_EqualRegions x2 x3 x4 x5 y2 y3 y4 y5 h2 h3 h4
  by_cases e1 : x0 = y0 ∧ x1 = y1
  · rw [decide_eq_true e1] at q1
    by_cases e2 : x2 = y2 ∧ x3 = y3 ∧ x4 = y4 ∧ x5 = y5
    · rw [decide_eq_true e2] at q2
      by_cases e3 : x6 = y6
      · simp [M_impl_equalEntries, q1, q2, e3]
        simp [e1, e2]
      · simp [M_impl_equalEntries, q1, q2, e3]
    · rw [decide_eq_false e2] at q2
      simp [M_impl_equalEntries, q1, q2]
      grind
  · rw [decide_eq_false e1] at q1
    simp [M_impl_equalEntries, q1]
    grind

theorem l_EqualFunc_CacheEntry (xs ys : List CacheEntry) (hx : Le xs) (hh : ∀ x ∈ xs, LeE x) (hl : ys.length = xs.length) : ∀ i, i ≤ xs.length →
    if xs.drop i = ys.drop i then ∀ fr, EvL C fr [1, 2, 15, 16, 17] B_slices_EqualFunc___impl_CacheEntry___impl_CacheEntry_impl_CacheEntry_impl_CacheEntry__0 ⟨[(1, L 8 (ys.map CacheEntry.c)), (2, .fn f_impl_equalEntries []), (15, L 8 (xs.map CacheEntry.c)), (16, I xs.length), (17, I i)], [[]], []⟩ = EvX C fr (.x 0) ⟨[(1, L 8 (ys.map CacheEntry.c)), (2, .fn f_impl_equalEntries []), (15, L 8 (xs.map CacheEntry.c)), (16, I xs.length), (17, I xs.length), (18, Bo false)], [[]], []⟩
    else ∃ h, ∀ fr, EvL C fr [1, 2, 15, 16, 17] B_slices_EqualFunc___impl_CacheEntry___impl_CacheEntry_impl_CacheEntry_impl_CacheEntry__0 ⟨[(1, L 8 (ys.map CacheEntry.c)), (2, .fn f_impl_equalEntries []), (15, L 8 (xs.map CacheEntry.c)), (16, I xs.length), (17, I i)], [[]], []⟩ = EvX C fr .r ⟨[(6, Bo false)], [[]], h⟩ := by
  refine down _ ?_ ?_
  · simp only [hl ▸ List.drop_eq_nil_of_le (Nat.le_refl _), List.drop_eq_nil_of_le (Nat.le_refl _), if_true]
    intro fr
    rw [EvL_eq B_slices_EqualFunc___impl_CacheEntry___impl_CacheEntry_impl_CacheEntry_impl_CacheEntry__0.eq_1]
    simp
  · intro i hi ih
    have hi2 : i < ys.length := by omega
    have h4 := inc64 (i := i) (by omega)
    have hc := hh _ (List.getElem_mem hi)
    have q := c_equalEntries xs[i].Query.VariableCount xs[i].Query.Atoms xs[i].Region.Plan.Steps xs[i].Region.Box.Low xs[i].Region.Box.High xs[i].Region.Percent xs[i].Version xs[i].Used ys[i].Query.VariableCount ys[i].Query.Atoms ys[i].Region.Plan.Steps ys[i].Region.Box.Low ys[i].Region.Box.High ys[i].Region.Percent ys[i].Version ys[i].Used hc.1 hc.2.1 hc.2.2.1 hc.2.2.2
    simp only [drop_eq_iff hi hi2]
    simp at ih
    by_cases he : xs[i] = ys[i]
    · have hd : xs[i].Query.VariableCount = ys[i].Query.VariableCount ∧ xs[i].Query.Atoms = ys[i].Query.Atoms ∧ xs[i].Region.Plan.Steps = ys[i].Region.Plan.Steps ∧ xs[i].Region.Box.Low = ys[i].Region.Box.Low ∧ xs[i].Region.Box.High = ys[i].Region.Box.High ∧ xs[i].Region.Percent = ys[i].Region.Percent ∧ xs[i].Version = ys[i].Version ∧ xs[i].Used = ys[i].Used := by simp [he]
      rw [decide_eq_true hd] at q
      have e2 : ∀ fr, EvL C fr [1, 2, 15, 16, 17] B_slices_EqualFunc___impl_CacheEntry___impl_CacheEntry_impl_CacheEntry_impl_CacheEntry__0 ⟨[(1, L 8 (ys.map CacheEntry.c)), (2, .fn f_impl_equalEntries []), (15, L 8 (xs.map CacheEntry.c)), (16, I xs.length), (17, I i)], [[]], []⟩ = EvL C fr [1, 2, 15, 16, 17] B_slices_EqualFunc___impl_CacheEntry___impl_CacheEntry_impl_CacheEntry_impl_CacheEntry__0 ⟨[(1, L 8 (ys.map CacheEntry.c)), (2, .fn f_impl_equalEntries []), (15, L 8 (xs.map CacheEntry.c)), (16, I xs.length), (17, I ((i : Int) + 1))], [[]], []⟩ := by
        intro fr
        rw [EvL_eq B_slices_EqualFunc___impl_CacheEntry___impl_CacheEntry_impl_CacheEntry_impl_CacheEntry__0.eq_1]
        simp +decide [hi, hi2, h4, q]
      simp only [he, true_and, e2]
      exact ih
    · have hd : ¬ (xs[i].Query.VariableCount = ys[i].Query.VariableCount ∧ xs[i].Query.Atoms = ys[i].Query.Atoms ∧ xs[i].Region.Plan.Steps = ys[i].Region.Plan.Steps ∧ xs[i].Region.Box.Low = ys[i].Region.Box.Low ∧ xs[i].Region.Box.High = ys[i].Region.Box.High ∧ xs[i].Region.Percent = ys[i].Region.Percent ∧ xs[i].Version = ys[i].Version ∧ xs[i].Used = ys[i].Used) := by
        intro h
        apply he
        simp [CacheEntry.ext_iff, Query.ext_iff, Region.ext_iff, Plan.ext_iff, Box.ext_iff, h]
      rw [decide_eq_false hd] at q
      simp only [he, false_and, if_false]
      refine ⟨[.box [I xs[i].Query.VariableCount, .t (.lst 2 (xs[i].Query.Atoms.map Atom.c)), .t (.lst 3 (xs[i].Region.Plan.Steps.map PlanStep.c)), .t (tI xs[i].Region.Box.Low), .t (tI xs[i].Region.Box.High), I xs[i].Region.Percent, I xs[i].Version, I xs[i].Used], .box [I ys[i].Query.VariableCount, .t (.lst 2 (ys[i].Query.Atoms.map Atom.c)), .t (.lst 3 (ys[i].Region.Plan.Steps.map PlanStep.c)), .t (tI ys[i].Region.Box.Low), .t (tI ys[i].Region.Box.High), I ys[i].Region.Percent, I ys[i].Version, I ys[i].Used]], fun fr => ?_⟩
      rw [EvL_eq B_slices_EqualFunc___impl_CacheEntry___impl_CacheEntry_impl_CacheEntry_impl_CacheEntry__0.eq_1]
      simp +decide [hi, hi2, h4, q]
theorem c_EqualFunc_CacheEntry (xs ys : List CacheEntry) (hx : Le xs) (hh : ∀ x ∈ xs, LeE x) : C f_slices_EqualFunc___impl_CacheEntry___impl_CacheEntry_impl_CacheEntry_impl_CacheEntry_ [L 8 (xs.map CacheEntry.c), L 8 (ys.map CacheEntry.c), .fn f_impl_equalEntries []] [] = some (Bo (decide (xs = ys)), []) := by
  refine run t_slices_EqualFunc___impl_CacheEntry___impl_CacheEntry_impl_CacheEntry_impl_CacheEntry_ rfl ?_
  by_cases hl : ys.length = xs.length
  · have h3 := l_EqualFunc_CacheEntry xs ys hx hh hl 0 (Nat.zero_le _)
    simp at h3
    by_cases he : xs = ys
    · rw [if_pos he] at h3
      subst he
      simp [M_slices_EqualFunc___impl_CacheEntry___impl_CacheEntry_impl_CacheEntry_impl_CacheEntry_, h3]
    · rw [if_neg he] at h3
      obtain ⟨h, h3⟩ := h3
      simp [M_slices_EqualFunc___impl_CacheEntry___impl_CacheEntry_impl_CacheEntry_impl_CacheEntry_, hl, h3, he]
  · have h1 : xs ≠ ys := fun h => hl (by rw [h])
    have h2 : ¬ ((xs.length : Int) = ys.length) := by omega
    simp [M_slices_EqualFunc___impl_CacheEntry___impl_CacheEntry_impl_CacheEntry_impl_CacheEntry_, h1, h2]

theorem c_impl_EqualCaches (a b : Int) (xs ys : List CacheEntry) (hx : Le xs) (hh : ∀ x ∈ xs, LeE x) : C f_impl_EqualCaches [.agg [I a, L 8 (xs.map CacheEntry.c)], .agg [I b, L 8 (ys.map CacheEntry.c)]] [] = some (Bo (decide (a = b ∧ xs = ys)), []) := by
  refine run t_impl_EqualCaches rfl ?_
  by_cases h : a = b
  · subst h; simp [M_impl_EqualCaches, c_EqualFunc_CacheEntry _ _ hx hh]
  · simp [M_impl_EqualCaches, h]

theorem l_spec_EqualCaches (a b : Int) (xs ys : List CacheEntry) (hx : Le xs) (hh : ∀ x ∈ xs, LeE x) (hl : ys.length = xs.length) (fr : List Fr) : ∀ i, i ≤ xs.length →
    EvL C fr [2, 3, 5] B_spec_EqualCaches_0 ⟨[(2, .ptr 0 0), (3, .ptr 1 0), (5, I i)], [[]], [.box [I a, L 8 (xs.map CacheEntry.c)], .box [I b, L 8 (ys.map CacheEntry.c)]]⟩ =
    if xs.drop i = ys.drop i then EvX C fr (.x 0) ⟨[(2, .ptr 0 0), (3, .ptr 1 0), (5, I xs.length), (24, Bo false)], [[]], [.box [I a, L 8 (xs.map CacheEntry.c)], .box [I b, L 8 (ys.map CacheEntry.c)]]⟩
    else EvX C fr .r ⟨[(4, Bo false)], [[]], [.box [I a, L 8 (xs.map CacheEntry.c)], .box [I b, L 8 (ys.map CacheEntry.c)]]⟩ := by
  refine down _ ?_ ?_
  · rw [EvL_eq B_spec_EqualCaches_0.eq_1]
    simp [hl, List.drop_eq_nil_of_le]
  · intro i hi ih
    have hi2 : i < ys.length := by omega
    have h4 := inc64 (i := i) (by omega)
    obtain ⟨c1, c2, c3, c4⟩ := hh _ (List.getElem_mem hi)
    have q1 := c_spec_EqualQueries xs[i].Query.VariableCount xs[i].Query.Atoms ys[i].Query.VariableCount ys[i].Query.Atoms c1
    have q2 := c_spec_EqualRegions xs[i].Region.Plan.Steps xs[i].Region.Box.Low xs[i].Region.Box.High xs[i].Region.Percent ys[i].Region.Plan.Steps ys[i].Region.Box.Low ys[i].Region.Box.High ys[i].Region.Percent c2 c3 c4
    rw [EvL_eq B_spec_EqualCaches_0.eq_1]
    simp at ih
    simp only [drop_eq_iff hi hi2, CacheEntry.ext_iff, Query.ext_iff, Region.ext_iff, Plan.ext_iff, Box.ext_iff]
    by_cases e1 : xs[i].Query.VariableCount = ys[i].Query.VariableCount ∧ xs[i].Query.Atoms = ys[i].Query.Atoms
    · rw [decide_eq_true e1] at q1
      by_cases e2 : xs[i].Region.Plan.Steps = ys[i].Region.Plan.Steps ∧ xs[i].Region.Box.Low = ys[i].Region.Box.Low ∧ xs[i].Region.Box.High = ys[i].Region.Box.High ∧ xs[i].Region.Percent = ys[i].Region.Percent
      · rw [decide_eq_true e2] at q2
        by_cases e3 : xs[i].Version = ys[i].Version
        · by_cases e4 : xs[i].Used = ys[i].Used
          · simp +decide [hi, hi2, h4, q1, q2, e3, e4, ih]
            simp [e1, e2]
          · simp +decide [hi, hi2, h4, q1, q2, e3, e4]
        · simp +decide [hi, hi2, h4, q1, q2, e3]
      · rw [decide_eq_false e2] at q2
        simp +decide [hi, hi2, h4, q1, q2]
        grind
    · rw [decide_eq_false e1] at q1
      simp +decide [hi, hi2, h4, q1]
      grind
theorem c_spec_EqualCaches (a b : Int) (xs ys : List CacheEntry) (hx : Le xs) (hh : ∀ x ∈ xs, LeE x) : C f_spec_EqualCaches [.agg [I a, L 8 (xs.map CacheEntry.c)], .agg [I b, L 8 (ys.map CacheEntry.c)]] [] = some (Bo (decide (a = b ∧ xs = ys)), []) := by
  refine run t_spec_EqualCaches rfl ?_
  by_cases h : a = b
  · by_cases hl : ys.length = xs.length
    · have h3 := fun fr => l_spec_EqualCaches a b xs ys hx hh hl fr 0 (Nat.zero_le _)
      subst h
      simp at h3
      simp [M_spec_EqualCaches, h3, hl]
      split <;> simp_all
    · have h1 : xs ≠ ys := fun h => hl (by rw [h])
      have h2 : ¬ ((xs.length : Int) = ys.length) := by omega
      simp [M_spec_EqualCaches, h, h1, h2]
  · simp [M_spec_EqualCaches, h]

theorem lawEqualCaches (a b : PlanCache) (ha : a.okay) (hb : b.okay) : C f_laws_FnExactEqualCaches [.agg (a.c.map .t), .agg (b.c.map .t)] [] = some (Bo true, []) := by
  refine run t_laws_FnExactEqualCaches rfl ?_
  have e1 := c_szPlanCache a.Clock a.Entries 1048576 ha.2
  have e2 := fun l => c_szPlanCache b.Clock b.Entries l hb.2
  by_cases h1 : PlanCache.sz a 1048576 < 0
  · simp [M_laws_FnExactEqualCaches, e1, h1]
  · obtain ⟨g1, g2⟩ := PlanCache.sz_ok a 1048576 ha (by omega) (by omega) (by omega)
    by_cases h2 : PlanCache.sz b (PlanCache.sz a 1048576) < 0
    · simp [M_laws_FnExactEqualCaches, e1, h1, e2, h2]
    · obtain ⟨k1, k2⟩ := PlanCache.sz_ok b _ hb (by omega) (by omega) (by omega : 0 ≤ PlanCache.sz b (PlanCache.sz a 1048576))
      have n1 : Le a.Entries := by have := g2.1; omega
      have n2 : ∀ x ∈ a.Entries, LeE x := fun x hx => by
        obtain ⟨q1, q2, q3, q4⟩ := g2.2 x hx
        exact ⟨⟨by have := q1.1; omega, fun y hy => by have := (q1.2 y hy).2; omega⟩, by omega, by omega, by omega⟩
      have t1 := c_toPlanCache a.Clock a.Entries g2
      have t2 := c_toPlanCache b.Clock b.Entries k2
      have q1 := fun x0 x1 => c_eqPlanCache a.Clock a.Entries x0 x1 g2
      have q2 := fun x0 x1 => c_eqPlanCache b.Clock b.Entries x0 x1 k2
      simp +decide [M_laws_FnExactEqualCaches, e1, h1, e2, h2, t1, t2, c_spec_EqualCaches _ _ _ _ n1 n2, c_impl_EqualCaches _ _ _ _ n1 n2, q1, q2]
end Go.Proofs.Ytdiolobkcblcmaa
