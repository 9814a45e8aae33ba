/-
  EqualAnswers, EqualPlans, EqualBoxes and what they lean on: the walks.
-/
import Derived.Test.YtiniphmomjnocaaFA
namespace Go.Proofs.Ytiniphmomjnocaa
open Go.AM
set_option linter.unusedSimpArgs false
set_option linter.unusedVariables false

def firstDiff : List Int → List Int → Option Int
  | a :: as', b :: bs => if a < b then some (-1) else if a > b then some 1 else firstDiff as' bs
  | _, _ => none
def cmpRows (xs ys : List Int) : Int := match firstDiff xs ys with
  | some r => r
  | none => if xs.length < ys.length then -1 else if xs.length > ys.length then 1 else 0

theorem firstDiff_ne {xs ys : List Int} {r : Int} (h : firstDiff xs ys = some r) : r ≠ 0 ∧ xs ≠ ys := by
  induction xs generalizing ys with
  | nil => cases ys <;> simp [firstDiff] at h
  | cons x xs ih =>
    cases ys with
    | nil => simp [firstDiff] at h
    | cons y ys =>
      simp only [firstDiff] at h
      split at h
      · cases h; exact ⟨by omega, fun hc => by cases hc; omega⟩
      · split at h
        · cases h; exact ⟨by omega, fun hc => by cases hc; omega⟩
        · have := ih h
          exact ⟨this.1, fun hc => this.2 (by cases hc; rfl)⟩

theorem firstDiff_none {xs ys : List Int} (h : firstDiff xs ys = none) (hl : xs.length = ys.length) : xs = ys := by
  induction xs generalizing ys with
  | nil => cases ys <;> simp at hl ⊢
  | cons x xs ih =>
    cases ys with
    | nil => simp at hl
    | cons y ys =>
      simp only [firstDiff] at h
      split at h
      · cases h
      · split at h
        · cases h
        · have : x = y := by omega
          rw [this, ih h (by simpa using hl)]

theorem cmpRows_zero (xs ys : List Int) : cmpRows xs ys = 0 ↔ xs = ys := by
  unfold cmpRows
  cases hd : firstDiff xs ys with
  | some r => simp [(firstDiff_ne hd).1, (firstDiff_ne hd).2]
  | none =>
    simp only
    constructor
    · intro h
      refine firstDiff_none hd ?_
      split at h
      · omega
      · split at h <;> omega
    · rintro rfl; simp

theorem l_CompareRows (xs ys : List Int) (hx : Le xs) (fr : List Fr) : ∀ i, i ≤ min xs.length ys.length → EvL C fr [0, 1, 5] B_spec_CompareRows_0 ⟨[(0, .t (tI xs)), (1, .t (tI ys)), (5, I i)], [[]], []⟩ =
    match firstDiff (xs.drop i) (ys.drop i) with
    | some r => EvX C fr .r ⟨[(4, I r)], [[]], []⟩
    | none => EvX C fr (.x 0) ⟨[(0, .t (tI xs)), (1, .t (tI ys)), (5, I (min xs.length ys.length : Nat)), (15, Bo false)], [[]], []⟩ := by
  refine down _ ?_ ?_
  · rw [EvL_eq B_spec_CompareRows_0.eq_1]
    by_cases h : xs.length ≤ ys.length
    · have e : min xs.length ys.length = xs.length := by omega
      rw [e, List.drop_eq_nil_of_le (Nat.le_refl _)]
      simp [firstDiff]
    · have e : min xs.length ys.length = ys.length := by omega
      rw [e, List.drop_eq_nil_of_le (i := ys.length) (Nat.le_refl _)]
      have h1 : ys.length < xs.length := by omega
      have e2 : firstDiff (xs.drop ys.length) [] = none := by cases xs.drop ys.length <;> rfl
      simp [e2, h1]
  · intro i hi ih
    have hi1 : i < xs.length := by omega
    have hi2 : i < ys.length := by omega
    have h4 := inc64 (i := i) (by omega)
    rw [EvL_eq B_spec_CompareRows_0.eq_1, List.drop_eq_getElem_cons hi1, List.drop_eq_getElem_cons hi2, firstDiff]
    simp at ih
    simp +decide [hi1, hi2, h4, ih]
    split
    · rfl
    · split <;> rfl

@[simp] theorem c_CompareRows (xs ys : List Int) (hx : Le xs) : C f_spec_CompareRows [.t (tI xs), .t (tI ys)] [] = some (I (cmpRows xs ys), []) := by
  refine run t_spec_CompareRows rfl ?_
  have h3 := fun fr => l_CompareRows xs ys hx fr 0 (Nat.zero_le _)
  simp at h3
  simp [M_spec_CompareRows, h3]
  unfold cmpRows
  cases firstDiff xs ys with
  | some r => simp
  | none =>
    simp
    repeat' split
    all_goals first | rfl | omega

/-! ### Go's library -/

end Go.Proofs.Ytiniphmomjnocaa
