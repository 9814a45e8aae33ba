/-
  FindEntry: the walks and the law.
-/
import Derived.Test.YtdiolobkcblcmaaW13
namespace Go.Proofs.Ytdiolobkcblcmaa
open Go.AM
set_option linter.unusedSimpArgs false
set_option linter.unusedVariables false

/-- The number of the first that answers, counted from i; -1 if none does. -/
def find1 {α : Type} (p : α → Bool) : List α → Nat → Int
  | [], _ => -1
  | x :: xs, i => if p x = true then i else find1 p xs (i + 1)
theorem find1_drop {α : Type} (p : α → Bool) {xs : List α} {i : Nat} (h : i < xs.length) : find1 p (xs.drop i) i = if p xs[i] = true then (i : Int) else find1 p (xs.drop (i + 1)) (i + 1) := by
  rw [List.drop_eq_getElem_cons h, find1]
theorem find1_none {α : Type} (p : α → Bool) (xs : List α) : ∀ i, xs.any p = false → find1 p xs i = -1 := by
  induction xs with
  | nil => intro i _; rfl
  | cons x xs ih => intro i h; simp at h; simp [find1, h]; apply ih; simp; exact h.2

def hitE (n : Int) (qa : List Atom) (v : Int) (l : List Int) (e : CacheEntry) : Bool :=
  decide (e.Version = v) && decide (e.Query.VariableCount = n ∧ e.Query.Atoms = qa) && inBox e.Region.Box.Low e.Region.Box.High l

theorem l_spec_FindEntry (k : Int) (xs : List CacheEntry) (n : Int) (qa : List Atom) (v : Int) (l : List Int) (hx : Le xs) (hh : ∀ x ∈ xs, LeE x) (hl : Le l) : ∀ i, i ≤ xs.length →
    if (xs.drop i).any (hitE n qa v l) = true then ∃ h, ∀ fr, EvL C fr [2, 3, 4, 5, 9] B_spec_FindEntry_0 ⟨[(2, I v), (3, .t (tI l)), (4, .ptr 0 0), (5, .ptr 1 0), (9, I i)], [[]], [.box [I k, L 8 (xs.map CacheEntry.c)], .box [I n, L 2 (qa.map Atom.c)]]⟩ = EvX C fr .r ⟨[(8, I (find1 (hitE n qa v l) (xs.drop i) i))], [[]], h⟩
    else ∀ fr, EvL C fr [2, 3, 4, 5, 9] B_spec_FindEntry_0 ⟨[(2, I v), (3, .t (tI l)), (4, .ptr 0 0), (5, .ptr 1 0), (9, I i)], [[]], [.box [I k, L 8 (xs.map CacheEntry.c)], .box [I n, L 2 (qa.map Atom.c)]]⟩ = EvX C fr (.x 0) ⟨[(2, I v), (3, .t (tI l)), (4, .ptr 0 0), (5, .ptr 1 0), (9, I xs.length), (15, Bo false)], [[]], [.box [I k, L 8 (xs.map CacheEntry.c)], .box [I n, L 2 (qa.map Atom.c)]]⟩ := by
  refine down _ ?_ ?_
  · simp
    intro fr
    rw [EvL_eq B_spec_FindEntry_0.eq_1]
    simp
  · intro i hi ih
    have h4 := inc64 (i := i) (by omega)
    obtain ⟨c1, c2, c3, c4⟩ := hh _ (List.getElem_mem hi)
    have q1 := c_spec_EqualQueries xs[i].Query.VariableCount xs[i].Query.Atoms n qa c1
    have q2 := c_spec_IsInBox xs[i].Region.Box.Low xs[i].Region.Box.High l c3 c4 hl
    rw [drop_any _ hi, find1_drop _ hi]
    simp only [Int.natCast_add, Int.cast_ofNat_Int] at ih
    by_cases e1 : xs[i].Version = v
    · by_cases e2 : xs[i].Query.VariableCount = n ∧ xs[i].Query.Atoms = qa
      · rw [decide_eq_true e2] at q1
        rcases tf (inBox xs[i].Region.Box.Low xs[i].Region.Box.High l) with e3 | e3
        · have e : hitE n qa v l xs[i] = false := by simp [hitE, e3]
          simp only [e, Bool.false_or, Bool.false_eq_true, if_false]
          have e5 : ∀ fr, EvL C fr [2, 3, 4, 5, 9] B_spec_FindEntry_0 ⟨[(2, I v), (3, .t (tI l)), (4, .ptr 0 0), (5, .ptr 1 0), (9, I i)], [[]], [.box [I k, L 8 (xs.map CacheEntry.c)], .box [I n, L 2 (qa.map Atom.c)]]⟩ = EvL C fr [2, 3, 4, 5, 9] B_spec_FindEntry_0 ⟨[(2, I v), (3, .t (tI l)), (4, .ptr 0 0), (5, .ptr 1 0), (9, I ((i : Int) + 1))], [[]], [.box [I k, L 8 (xs.map CacheEntry.c)], .box [I n, L 2 (qa.map Atom.c)]]⟩ := by
            intro fr
            rw [EvL_eq B_spec_FindEntry_0.eq_1]
            simp [hi, h4, q1, q2, e1, e3]
          simp only [e5]
          exact ih
        · have e : hitE n qa v l xs[i] = true := by simp [hitE, e1, e2, e3]
          simp only [e, Bool.true_or, if_true]
          refine ⟨[.box [I k, L 8 (xs.map CacheEntry.c)], .box [I n, L 2 (qa.map Atom.c)], .box (xs[i].c.map .t)], fun fr => ?_⟩
          rw [EvL_eq B_spec_FindEntry_0.eq_1]
          simp [hi, h4, q1, q2, e1, e3]
      · rw [decide_eq_false e2] at q1
        have e : hitE n qa v l xs[i] = false := by simp only [hitE, decide_eq_false e2, Bool.and_false, Bool.false_and]
        simp only [e, Bool.false_or, Bool.false_eq_true, if_false]
        have e5 : ∀ fr, EvL C fr [2, 3, 4, 5, 9] B_spec_FindEntry_0 ⟨[(2, I v), (3, .t (tI l)), (4, .ptr 0 0), (5, .ptr 1 0), (9, I i)], [[]], [.box [I k, L 8 (xs.map CacheEntry.c)], .box [I n, L 2 (qa.map Atom.c)]]⟩ = EvL C fr [2, 3, 4, 5, 9] B_spec_FindEntry_0 ⟨[(2, I v), (3, .t (tI l)), (4, .ptr 0 0), (5, .ptr 1 0), (9, I ((i : Int) + 1))], [[]], [.box [I k, L 8 (xs.map CacheEntry.c)], .box [I n, L 2 (qa.map Atom.c)]]⟩ := by
          intro fr
          rw [EvL_eq B_spec_FindEntry_0.eq_1]
          simp [hi, h4, q1, q2, e1]
        simp only [e5]
        exact ih
    · have e : hitE n qa v l xs[i] = false := by simp [hitE, e1]
      simp only [e, Bool.false_or, Bool.false_eq_true, if_false]
      have e5 : ∀ fr, EvL C fr [2, 3, 4, 5, 9] B_spec_FindEntry_0 ⟨[(2, I v), (3, .t (tI l)), (4, .ptr 0 0), (5, .ptr 1 0), (9, I i)], [[]], [.box [I k, L 8 (xs.map CacheEntry.c)], .box [I n, L 2 (qa.map Atom.c)]]⟩ = EvL C fr [2, 3, 4, 5, 9] B_spec_FindEntry_0 ⟨[(2, I v), (3, .t (tI l)), (4, .ptr 0 0), (5, .ptr 1 0), (9, I ((i : Int) + 1))], [[]], [.box [I k, L 8 (xs.map CacheEntry.c)], .box [I n, L 2 (qa.map Atom.c)]]⟩ := by
        intro fr
        rw [EvL_eq B_spec_FindEntry_0.eq_1]
        simp [hi, h4, q1, q2, e1]
      simp only [e5]
      exact ih
theorem c_spec_FindEntry (k : Int) (xs : List CacheEntry) (n : Int) (qa : List Atom) (v : Int) (l : List Int) (hx : Le xs) (hh : ∀ x ∈ xs, LeE x) (hl : Le l) : C f_spec_FindEntry [.agg [I k, L 8 (xs.map CacheEntry.c)], .agg [I n, L 2 (qa.map Atom.c)], I v, .t (tI l)] [] = some (I (find1 (hitE n qa v l) xs 0), []) := by
  refine run t_spec_FindEntry rfl ?_
  have h3 := l_spec_FindEntry k xs n qa v l hx hh hl 0 (Nat.zero_le _)
  simp only [List.drop_zero] at h3
  rcases tf (xs.any (hitE n qa v l)) with e | e
  · rw [e] at h3
    simp only [Bool.false_eq_true, if_false] at h3
    rw [find1_none _ _ _ e]
    simp at h3
    simp [M_spec_FindEntry, h3]
  · rw [e] at h3
    simp only [if_true] at h3
    obtain ⟨h, h3⟩ := h3
    simp at h3
    simp [M_spec_FindEntry, h3]

theorem c_FindEntry_1 (e : CacheEntry) (n : Int) (qa : List Atom) (v : Int) (l : List Int) (hh : LeE e) (hl : Le l) : C f_impl_FindEntry_1 [.agg [I e.Query.VariableCount, .t (.lst 2 (e.Query.Atoms.map Atom.c)), .t (.lst 3 (e.Region.Plan.Steps.map PlanStep.c)), .t (tI e.Region.Box.Low), .t (tI e.Region.Box.High), I e.Region.Percent, I e.Version, I e.Used], .iptr [.int .i64 v] 0, .iptr [.int .i64 n, .lst 2 (qa.map Atom.c)] 0, .iptr [tI l] 0] [] = some (Bo (hitE n qa v l e), []) := by
  refine run t_impl_FindEntry_1 rfl ?_
  obtain ⟨c1, c2, c3, c4⟩ := hh
  have q1 := c_impl_EqualQueries e.Query.VariableCount e.Query.Atoms n qa c1
  have q2 := c_impl_IsInBox e.Region.Box.Low e.Region.Box.High l c3 c4 hl
  unfold hitE
  by_cases e1 : e.Version = v
  · by_cases e2 : e.Query.VariableCount = n ∧ e.Query.Atoms = qa
    · rw [decide_eq_true e2] at q1 ⊢
      simp [M_impl_FindEntry_1, q1, q2, e1]
    · rw [decide_eq_false e2] at q1 ⊢
      simp [M_impl_FindEntry_1, q1, q2, e1]
  · simp [M_impl_FindEntry_1, e1]

abbrev fnFE (n : Int) (qa : List Atom) (v : Int) (l : List Int) : AV := .fn f_impl_FindEntry_1 [.iptr [.int .i64 v] 0, .iptr [.int .i64 n, .lst 2 (qa.map Atom.c)] 0, .iptr [tI l] 0]
theorem l_IndexFunc_FE (xs : List CacheEntry) (n : Int) (qa : List Atom) (v : Int) (l : List Int) (hx : Le xs) (hh : ∀ x ∈ xs, LeE x) (hl : Le l) (fr : List Fr) : ∀ i, i ≤ xs.length →
    EvL C fr [0, 1, 7, 8] B_slices_IndexFunc___impl_CacheEntry_impl_CacheEntry__0 ⟨[(0, L 8 (xs.map CacheEntry.c)), (1, fnFE n qa v l), (7, I xs.length), (8, I i)], [[]], []⟩ =
    if (xs.drop i).any (hitE n qa v l) = true then EvX C fr .r ⟨[(4, I (find1 (hitE n qa v l) (xs.drop i) i))], [[]], []⟩
    else EvX C fr (.x 0) ⟨[(0, L 8 (xs.map CacheEntry.c)), (1, fnFE n qa v l), (7, I xs.length), (8, I xs.length), (9, Bo false)], [[]], []⟩ := by
  refine down _ ?_ ?_
  · rw [EvL_eq B_slices_IndexFunc___impl_CacheEntry_impl_CacheEntry__0.eq_1]
    simp
  · intro i hi ih
    have h4 := inc64 (i := i) (by omega)
    have q1 := c_FindEntry_1 xs[i] n qa v l (hh _ (List.getElem_mem hi)) hl
    rw [drop_any _ hi, find1_drop _ hi]
    simp only [Int.natCast_add, Int.cast_ofNat_Int] at ih
    rw [EvL_eq B_slices_IndexFunc___impl_CacheEntry_impl_CacheEntry__0.eq_1]
    rcases tf (hitE n qa v l xs[i]) with e | e
    · simp only [e, Bool.false_or, Bool.false_eq_true, if_false, ← ih]
      simp [hi, h4, q1, e]
    · simp [hi, h4, q1, e]
theorem c_IndexFunc_FE (xs : List CacheEntry) (n : Int) (qa : List Atom) (v : Int) (l : List Int) (hx : Le xs) (hh : ∀ x ∈ xs, LeE x) (hl : Le l) : C f_slices_IndexFunc___impl_CacheEntry_impl_CacheEntry_ [L 8 (xs.map CacheEntry.c), fnFE n qa v l] [] = some (I (find1 (hitE n qa v l) xs 0), []) := by
  refine run t_slices_IndexFunc___impl_CacheEntry_impl_CacheEntry_ rfl ?_
  have h3 := fun fr => l_IndexFunc_FE xs n qa v l hx hh hl fr 0 (Nat.zero_le _)
  simp only [List.drop_zero] at h3
  rcases tf (xs.any (hitE n qa v l)) with e | e
  · rw [e] at h3
    simp at h3
    rw [find1_none _ _ _ e]
    simp [M_slices_IndexFunc___impl_CacheEntry_impl_CacheEntry_, h3]
  · rw [e] at h3
    simp at h3
    simp [M_slices_IndexFunc___impl_CacheEntry_impl_CacheEntry_, h3]
theorem c_impl_FindEntry (k : Int) (xs : List CacheEntry) (n : Int) (qa : List Atom) (v : Int) (l : List Int) (hx : Le xs) (hh : ∀ x ∈ xs, LeE x) (hl : Le l) : C f_impl_FindEntry [.agg [I k, L 8 (xs.map CacheEntry.c)], .agg [I n, L 2 (qa.map Atom.c)], I v, .t (tI l)] [] = some (I (find1 (hitE n qa v l) xs 0), []) := by
  refine run t_impl_FindEntry rfl ?_
  have q := c_IndexFunc_FE xs n qa v l hx hh hl
  simp [M_impl_FindEntry, q]

theorem lawFindEntry (a : PlanCache) (b : Query) (v : Int) (l : List Int) (ha : a.okay) (hb : b.okay) (hv : OkI v) (hl : OkL OkI l) : C f_laws_FnExactFindEntry [.agg (a.c.map .t), .agg (b.c.map .t), I v, .t (tI l)] [] = some (Bo true, []) := by
  refine run t_laws_FnExactFindEntry rfl ?_
  have e1 := c_szPlanCache a.Clock a.Entries 1048576 ha.2
  have e2 := fun l => c_szQuery b.VariableCount b.Atoms l hb.2
  by_cases h0 : (1048576 : Int) < l.length
  · simp [M_laws_FnExactFindEntry, h0]
  by_cases h1 : PlanCache.sz a 1048576 < 0
  · simp [M_laws_FnExactFindEntry, e1, h0, h1]
  · obtain ⟨g1, g2⟩ := PlanCache.sz_ok a 1048576 ha (by omega) (by omega) (by omega)
    by_cases h2 : Query.sz b (PlanCache.sz a 1048576) < 0
    · simp [M_laws_FnExactFindEntry, e1, h0, h1, e2, h2]
    · obtain ⟨k1, k2⟩ := Query.sz_ok b _ hb (by omega) (by omega) (by omega : 0 ≤ Query.sz b (PlanCache.sz a 1048576))
      have n1 : Le a.Entries := by have := g2.1; omega
      have n2 : ∀ x ∈ a.Entries, LeE x := fun x hx => by
        obtain ⟨q1, q2, q3, q4⟩ := g2.2 x hx
        exact ⟨⟨by have := q1.1; omega, fun y hy => by have := (q1.2 y hy).2; omega⟩, by omega, by omega, by omega⟩
      have n3 : Le l := by omega
      have t1 := c_toPlanCache a.Clock a.Entries g2
      have t2 := c_toQuery b.VariableCount b.Atoms k2
      have t3 := c_toIntS l (by omega)
      have q1 := fun x0 x1 => c_eqPlanCache a.Clock a.Entries x0 x1 g2
      have q2 := fun x0 x1 => c_eqQuery b.VariableCount b.Atoms x0 x1 k2
      have q3 := fun x0 => c_eqIntS l x0 (by omega)
      simp +decide [M_laws_FnExactFindEntry, h0, e1, h1, e2, h2, t1, t2, t3, c_spec_FindEntry _ _ _ _ _ _ n1 n2 n3, c_impl_FindEntry _ _ _ _ _ _ n1 n2 n3, q1, q2, q3]
end Go.Proofs.Ytdiolobkcblcmaa
