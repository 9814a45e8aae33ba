/-
  EqualQueries, EqualCaches: the walks and the law.
-/
import Derived.Test.YtdiolobkcblcmaaW4
namespace Go.Proofs.Ytdiolobkcblcmaa
open Go.AM
set_option linter.unusedSimpArgs false
set_option linter.unusedVariables false

theorem c_equalAtoms (a : ByteArray) (v : List Int) (a' : ByteArray) (v' : List Int) (hv : Le v) : C f_impl_equalAtoms [.agg [.t (.str a), .t (tI v)], .agg [.t (.str a'), .t (tI v')]] [] = some (Bo (decide (a = a' ∧ v = v')), []) := by
  refine run t_impl_equalAtoms rfl ?_
  by_cases h : a = a'
  · subst h; simp [M_impl_equalAtoms, c_slices_Equal_int _ _ hv]
  · simp [M_impl_equalAtoms, h]

theorem l_EqualFunc_Atom (xs ys : List Atom) (hx : Le xs) (hh : ∀ x ∈ xs, Le x.Vars) (hl : ys.length = xs.length) : ∀ i, i ≤ xs.length →
    if xs.drop i = ys.drop i then ∀ fr, EvL C fr [1, 2, 15, 16, 17] B_slices_EqualFunc___impl_Atom___impl_Atom_impl_Atom_impl_Atom__0 ⟨[(1, L 2 (ys.map Atom.c)), (2, .fn f_impl_equalAtoms []), (15, L 2 (xs.map Atom.c)), (16, I xs.length), (17, I i)], [[]], []⟩ = EvX C fr (.x 0) ⟨[(1, L 2 (ys.map Atom.c)), (2, .fn f_impl_equalAtoms []), (15, L 2 (xs.map Atom.c)), (16, I xs.length), (17, I xs.length), (18, Bo false)], [[]], []⟩
    else ∃ h, ∀ fr, EvL C fr [1, 2, 15, 16, 17] B_slices_EqualFunc___impl_Atom___impl_Atom_impl_Atom_impl_Atom__0 ⟨[(1, L 2 (ys.map Atom.c)), (2, .fn f_impl_equalAtoms []), (15, L 2 (xs.map Atom.c)), (16, I xs.length), (17, I i)], [[]], []⟩ = EvX C fr .r ⟨[(6, Bo false)], [[]], h⟩ := by
  refine down _ ?_ ?_
  · simp only [hl ▸ List.drop_eq_nil_of_le (Nat.le_refl _), List.drop_eq_nil_of_le (Nat.le_refl _), if_true]
    intro fr
    rw [EvL_eq B_slices_EqualFunc___impl_Atom___impl_Atom_impl_Atom_impl_Atom__0.eq_1]
    simp
  · intro i hi ih
    have hi2 : i < ys.length := by omega
    have h4 := inc64 (i := i) (by omega)
    have hc := hh _ (List.getElem_mem hi)
    have q := c_equalAtoms xs[i].Name xs[i].Vars ys[i].Name ys[i].Vars hc
    simp only [drop_eq_iff hi hi2]
    simp at ih
    by_cases he : xs[i] = ys[i]
    · have hd : xs[i].Name = ys[i].Name ∧ xs[i].Vars = ys[i].Vars := by simp [he]
      rw [decide_eq_true hd] at q
      have e2 : ∀ fr, EvL C fr [1, 2, 15, 16, 17] B_slices_EqualFunc___impl_Atom___impl_Atom_impl_Atom_impl_Atom__0 ⟨[(1, L 2 (ys.map Atom.c)), (2, .fn f_impl_equalAtoms []), (15, L 2 (xs.map Atom.c)), (16, I xs.length), (17, I i)], [[]], []⟩ = EvL C fr [1, 2, 15, 16, 17] B_slices_EqualFunc___impl_Atom___impl_Atom_impl_Atom_impl_Atom__0 ⟨[(1, L 2 (ys.map Atom.c)), (2, .fn f_impl_equalAtoms []), (15, L 2 (xs.map Atom.c)), (16, I xs.length), (17, I ((i : Int) + 1))], [[]], []⟩ := by
        intro fr
        rw [EvL_eq B_slices_EqualFunc___impl_Atom___impl_Atom_impl_Atom_impl_Atom__0.eq_1]
        simp +decide [hi, hi2, h4, q]
      simp only [he, true_and, e2]
      exact ih
    · have hd : ¬ (xs[i].Name = ys[i].Name ∧ xs[i].Vars = ys[i].Vars) := by
        intro h
        apply he
        simp [Atom.ext_iff, h]
      rw [decide_eq_false hd] at q
      simp only [he, false_and, if_false]
      refine ⟨[.box [.t (.str xs[i].Name), .t (tI xs[i].Vars)], .box [.t (.str ys[i].Name), .t (tI ys[i].Vars)]], fun fr => ?_⟩
      rw [EvL_eq B_slices_EqualFunc___impl_Atom___impl_Atom_impl_Atom_impl_Atom__0.eq_1]
      simp +decide [hi, hi2, h4, q]
theorem c_EqualFunc_Atom (xs ys : List Atom) (hx : Le xs) (hh : ∀ x ∈ xs, Le x.Vars) : C f_slices_EqualFunc___impl_Atom___impl_Atom_impl_Atom_impl_Atom_ [L 2 (xs.map Atom.c), L 2 (ys.map Atom.c), .fn f_impl_equalAtoms []] [] = some (Bo (decide (xs = ys)), []) := by
  refine run t_slices_EqualFunc___impl_Atom___impl_Atom_impl_Atom_impl_Atom_ rfl ?_
  by_cases hl : ys.length = xs.length
  · have h3 := l_EqualFunc_Atom xs ys hx hh hl 0 (Nat.zero_le _)
    simp at h3
    by_cases he : xs = ys
    · rw [if_pos he] at h3
      subst he
      simp [M_slices_EqualFunc___impl_Atom___impl_Atom_impl_Atom_impl_Atom_, h3]
    · rw [if_neg he] at h3
      obtain ⟨h, h3⟩ := h3
      simp [M_slices_EqualFunc___impl_Atom___impl_Atom_impl_Atom_impl_Atom_, hl, h3, he]
  · have h1 : xs ≠ ys := fun h => hl (by rw [h])
    have h2 : ¬ ((xs.length : Int) = ys.length) := by omega
    simp [M_slices_EqualFunc___impl_Atom___impl_Atom_impl_Atom_impl_Atom_, h1, h2]

abbrev LeQ (xs : List Atom) : Prop := Le xs ∧ ∀ x ∈ xs, Le x.Vars
theorem c_impl_EqualQueries (n : Int) (xs : List Atom) (n' : Int) (ys : List Atom) (hx : LeQ xs) : C f_impl_EqualQueries [.agg [I n, L 2 (xs.map Atom.c)], .agg [I n', L 2 (ys.map Atom.c)]] [] = some (Bo (decide (n = n' ∧ xs = ys)), []) := by
  refine run t_impl_EqualQueries rfl ?_
  by_cases h : n = n'
  · subst h; simp [M_impl_EqualQueries, c_EqualFunc_Atom _ _ hx.1 hx.2]
  · simp [M_impl_EqualQueries, h]

theorem l_spec_EqualQueries (n n' : Int) (xs ys : List Atom) (hx : LeQ xs) (hl : ys.length = xs.length) (fr : List Fr) : ∀ i, i ≤ xs.length →
    EvL C fr [2, 3, 5] B_spec_EqualQueries_0 ⟨[(2, .ptr 0 0), (3, .ptr 1 0), (5, I i)], [[]], [.box [I n, L 2 (xs.map Atom.c)], .box [I n', L 2 (ys.map Atom.c)]]⟩ =
    if xs.drop i = ys.drop i then EvX C fr (.x 0) ⟨[(2, .ptr 0 0), (3, .ptr 1 0), (5, I xs.length), (24, Bo false)], [[]], [.box [I n, L 2 (xs.map Atom.c)], .box [I n', L 2 (ys.map Atom.c)]]⟩
    else EvX C fr .r ⟨[(4, Bo false)], [[]], [.box [I n, L 2 (xs.map Atom.c)], .box [I n', L 2 (ys.map Atom.c)]]⟩ := by
  have hx1 := hx.1
  refine down _ ?_ ?_
  · rw [EvL_eq B_spec_EqualQueries_0.eq_1]
    simp [hl, List.drop_eq_nil_of_le]
  · intro i hi ih
    have hi2 : i < ys.length := by omega
    have h4 := inc64 (i := i) (by omega)
    have q := c_CompareRows xs[i].Vars ys[i].Vars (hx.2 _ (List.getElem_mem hi))
    rw [EvL_eq B_spec_EqualQueries_0.eq_1]
    simp at ih
    simp only [drop_eq_iff hi hi2, Atom.ext_iff, ← cmpRows_zero xs[i].Vars]
    by_cases h1 : xs[i].Name = ys[i].Name
    · by_cases h2 : cmpRows xs[i].Vars ys[i].Vars = 0
      · simp +decide [hi, hi2, h4, q, h1, h2, ih]
      · simp +decide [hi, hi2, h4, q, h1, h2]
    · simp +decide [hi, hi2, h4, q, h1]
theorem c_spec_EqualQueries (n : Int) (xs : List Atom) (n' : Int) (ys : List Atom) (hx : LeQ xs) : C f_spec_EqualQueries [.agg [I n, L 2 (xs.map Atom.c)], .agg [I n', L 2 (ys.map Atom.c)]] [] = some (Bo (decide (n = n' ∧ xs = ys)), []) := by
  refine run t_spec_EqualQueries rfl ?_
  by_cases h : n = n'
  · by_cases hl : ys.length = xs.length
    · have h3 := fun fr => l_spec_EqualQueries n n' xs ys hx hl fr 0 (Nat.zero_le _)
      subst h
      simp at h3
      simp [M_spec_EqualQueries, h3, hl]
      split <;> simp_all
    · have h1 : xs ≠ ys := fun h => hl (by rw [h])
      have h2 : ¬ ((xs.length : Int) = ys.length) := by omega
      simp [M_spec_EqualQueries, h, h1, h2]
  · simp [M_spec_EqualQueries, h]
end Go.Proofs.Ytdiolobkcblcmaa
