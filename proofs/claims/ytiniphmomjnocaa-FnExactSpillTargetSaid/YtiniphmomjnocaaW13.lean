/-
  Locations and boxes: IsLocation, DominatesLocation, IsValidBox, IsInBox.
-/
import Derived.Test.YtiniphmomjnocaaW4
namespace Go.Proofs.Ytiniphmomjnocaa
open Go.AM
set_option linter.unusedSimpArgs false
set_option linter.unusedVariables false

theorem drop_all {α : Type} (p : α → Bool) {xs : List α} {i : Nat} (h : i < xs.length) : (xs.drop i).all p = (p xs[i] && (xs.drop (i + 1)).all p) := by
  rw [List.drop_eq_getElem_cons h, List.all_cons]
theorem drop_any {α : Type} (p : α → Bool) {xs : List α} {i : Nat} (h : i < xs.length) : (xs.drop i).any p = (p xs[i] || (xs.drop (i + 1)).any p) := by
  rw [List.drop_eq_getElem_cons h, List.any_cons]

def allLoc (xs : List Int) : Bool := xs.all (fun x => inR x 0 7)
def isLoc (xs : List Int) : Bool := allLoc xs && decide ((xs.length : Int) ≤ 16)
theorem allLoc_drop {xs : List Int} {i : Nat} (h : i < xs.length) : allLoc (xs.drop i) = (inR xs[i] 0 7 && allLoc (xs.drop (i + 1))) := drop_all _ h

theorem l_spec_IsLocation (xs : List Int) (hx : Le xs) (fr : List Fr) : ∀ i, i ≤ xs.length →
    EvL C fr [0, 3] B_spec_IsLocation_0 ⟨[(0, .t (tI xs)), (3, I i)], [[]], []⟩ =
    if allLoc (xs.drop i) = true then EvX C fr (.x 0) ⟨[(0, .t (tI xs)), (3, I xs.length), (7, Bo false)], [[]], []⟩
    else EvX C fr .r ⟨[(2, Bo false)], [[]], []⟩ := by
  refine down _ ?_ ?_
  · rw [EvL_eq B_spec_IsLocation_0.eq_1]
    simp [allLoc]
  · intro i hi ih
    have h4 := inc64 (i := i) (by omega)
    rw [EvL_eq B_spec_IsLocation_0.eq_1]
    simp at ih
    rcases tf (inR xs[i] 0 7) with h | h
    · simp [hi, h4, h, ih, allLoc_drop hi]
    · simp [hi, h4, h, ih, allLoc_drop hi]
theorem c_spec_IsLocation (xs : List Int) (hx : Le xs) : C f_spec_IsLocation [.t (tI xs)] [] = some (Bo (isLoc xs), []) := by
  refine run t_spec_IsLocation rfl ?_
  have h3 := fun fr => l_spec_IsLocation xs hx fr 0 (Nat.zero_le _)
  simp at h3
  rcases tf (allLoc xs) with h | h <;> simp [M_spec_IsLocation, h3, h, isLoc]

theorem l_impl_IsLocation (xs : List Int) (hx : Le xs) (fr : List Fr) : ∀ i, i ≤ xs.length →
    EvL C fr [0, 5, 6, 7] B_impl_IsLocation_0 ⟨[(0, .t (tI xs)), (5, .t (tI xs)), (6, I xs.length), (7, I i)], [[]], []⟩ =
    if allLoc (xs.drop i) = true then EvX C fr (.x 0) ⟨[(0, .t (tI xs)), (5, .t (tI xs)), (6, I xs.length), (7, I xs.length), (8, Bo false)], [[]], []⟩
    else EvX C fr .r ⟨[(2, Bo false)], [[]], []⟩ := by
  refine down _ ?_ ?_
  · rw [EvL_eq B_impl_IsLocation_0.eq_1]
    simp [allLoc]
  · intro i hi ih
    have h4 := inc64 (i := i) (by omega)
    rw [EvL_eq B_impl_IsLocation_0.eq_1]
    simp at ih
    rcases tf (inR xs[i] 0 7) with h | h
    · simp [hi, h4, h, ih, allLoc_drop hi]
    · simp [hi, h4, h, ih, allLoc_drop hi]
theorem c_impl_IsLocation (xs : List Int) (hx : Le xs) : C f_impl_IsLocation [.t (tI xs)] [] = some (Bo (isLoc xs), []) := by
  refine run t_impl_IsLocation rfl ?_
  have h3 := fun fr => l_impl_IsLocation xs hx fr 0 (Nat.zero_le _)
  simp at h3
  rcases tf (allLoc xs) with h | h <;> simp [M_impl_IsLocation, h3, h, isLoc]

def domAll : List Int → List Int → Bool
  | x :: xs, y :: ys => decide (y ≤ x) && domAll xs ys
  | _, _ => true
def dom (xs ys : List Int) : Bool := decide (xs.length = ys.length) && domAll xs ys
theorem dom_drop {xs ys : List Int} {i : Nat} (h : i < xs.length) (h' : i < ys.length) : domAll (xs.drop i) (ys.drop i) = (decide (ys[i] ≤ xs[i]) && domAll (xs.drop (i + 1)) (ys.drop (i + 1))) := by
  rw [List.drop_eq_getElem_cons h, List.drop_eq_getElem_cons h', domAll]

theorem l_spec_DominatesLocation (xs ys : List Int) (hx : Le xs) (hl : ys.length = xs.length) (fr : List Fr) : ∀ i, i ≤ xs.length →
    EvL C fr [0, 1, 5] B_spec_DominatesLocation_0 ⟨[(0, .t (tI xs)), (1, .t (tI ys)), (5, I i)], [[]], []⟩ =
    if domAll (xs.drop i) (ys.drop i) = true then EvX C fr (.x 0) ⟨[(0, .t (tI xs)), (1, .t (tI ys)), (5, I xs.length), (14, Bo false)], [[]], []⟩
    else EvX C fr .r ⟨[(4, Bo false)], [[]], []⟩ := by
  refine down _ ?_ ?_
  · rw [EvL_eq B_spec_DominatesLocation_0.eq_1]
    simp [domAll]
  · intro i hi ih
    have hi2 : i < ys.length := by omega
    have h4 := inc64 (i := i) (by omega)
    rw [EvL_eq B_spec_DominatesLocation_0.eq_1]
    simp at ih
    rw [dom_drop hi hi2]
    by_cases h : xs[i] < ys[i]
    · simp +decide [hi, hi2, h4, h, show ¬ ys[i] ≤ xs[i] by omega]
    · simp +decide [hi, hi2, h4, h, show ys[i] ≤ xs[i] by omega, ih]
theorem c_spec_DominatesLocation (xs ys : List Int) (hx : Le xs) : C f_spec_DominatesLocation [.t (tI xs), .t (tI ys)] [] = some (Bo (dom xs ys), []) := by
  refine run t_spec_DominatesLocation rfl ?_
  by_cases hl : ys.length = xs.length
  · have h3 := fun fr => l_spec_DominatesLocation xs ys hx hl fr 0 (Nat.zero_le _)
    simp at h3
    rcases tf (domAll xs ys) with h | h <;> simp [M_spec_DominatesLocation, h3, h, hl, dom]
  · have h2 : ¬ ((xs.length : Int) = ys.length) := by omega
    have h1 : ¬ (xs.length = ys.length) := by omega
    simp [M_spec_DominatesLocation, h2, dom, h1]

theorem l_impl_DominatesLocation (xs ys : List Int) (hx : Le xs) (hl : ys.length = xs.length) (fr : List Fr) : ∀ i, i ≤ xs.length →
    EvL C fr [0, 1, 12, 13] B_impl_DominatesLocation_0 ⟨[(0, .t (tI xs)), (1, .t (tI ys)), (12, I xs.length), (13, I i)], [[]], []⟩ =
    if domAll (xs.drop i) (ys.drop i) = true then EvX C fr (.x 0) ⟨[(0, .t (tI xs)), (1, .t (tI ys)), (12, I xs.length), (13, I xs.length), (14, Bo false)], [[]], []⟩
    else EvX C fr .r ⟨[(4, Bo false)], [[]], []⟩ := by
  refine down _ ?_ ?_
  · rw [EvL_eq B_impl_DominatesLocation_0.eq_1]
    simp [domAll]
  · intro i hi ih
    have hi2 : i < ys.length := by omega
    have h4 := inc64 (i := i) (by omega)
    rw [EvL_eq B_impl_DominatesLocation_0.eq_1]
    simp at ih
    rw [dom_drop hi hi2]
    by_cases h : xs[i] < ys[i]
    · simp +decide [hi, hi2, h4, h, show ¬ ys[i] ≤ xs[i] by omega]
    · simp +decide [hi, hi2, h4, h, show ys[i] ≤ xs[i] by omega, ih]
theorem c_impl_DominatesLocation (xs ys : List Int) (hx : Le xs) : C f_impl_DominatesLocation [.t (tI xs), .t (tI ys)] [] = some (Bo (dom xs ys), []) := by
  refine run t_impl_DominatesLocation rfl ?_
  by_cases hl : ys.length = xs.length
  · have h3 := fun fr => l_impl_DominatesLocation xs ys hx hl fr 0 (Nat.zero_le _)
    simp at h3
    rcases tf (domAll xs ys) with h | h <;> simp [M_impl_DominatesLocation, h3, h, hl, dom]
  · have h2 : ¬ ((xs.length : Int) = ys.length) := by omega
    have h1 : ¬ (xs.length = ys.length) := by omega
    simp [M_impl_DominatesLocation, h2, dom, h1]

def validBox (lo hi : List Int) : Bool := decide (0 < lo.length) && isLoc lo && isLoc hi && dom hi lo
theorem c_spec_IsValidBox (lo hi : List Int) (h1 : Le lo) (h2 : Le hi) : C f_spec_IsValidBox [.agg [.t (tI lo), .t (tI hi)]] [] = some (Bo (validBox lo hi), []) := by
  refine run t_spec_IsValidBox rfl ?_
  have q1 := c_spec_IsLocation lo h1
  have q2 := c_spec_IsLocation hi h2
  have q3 := c_spec_DominatesLocation hi lo h2
  unfold validBox
  by_cases e0 : 0 < lo.length
  · rcases tf (isLoc lo) with e1 | e1 <;> rcases tf (isLoc hi) with e2 | e2 <;> simp [M_spec_IsValidBox, q1, q2, q3, e0, e1, e2]
  · simp [M_spec_IsValidBox, e0]
theorem c_impl_IsValidBox (lo hi : List Int) (h1 : Le lo) (h2 : Le hi) : C f_impl_IsValidBox [.agg [.t (tI lo), .t (tI hi)]] [] = some (Bo (validBox lo hi), []) := by
  refine run t_impl_IsValidBox rfl ?_
  have q1 := c_impl_IsLocation lo h1
  have q2 := c_impl_IsLocation hi h2
  have q3 := c_impl_DominatesLocation hi lo h2
  unfold validBox
  rcases tf (isLoc lo) with e1 | e1 <;> rcases tf (isLoc hi) with e2 | e2 <;> by_cases e0 : 0 < lo.length <;> simp [M_impl_IsValidBox, q1, q2, q3, e0, e1, e2]

def inBox (lo hi l : List Int) : Bool := validBox lo hi && dom l lo && dom hi l
end Go.Proofs.Ytiniphmomjnocaa
