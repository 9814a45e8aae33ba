/-
  Queries: names, the variables of a mask, IsValidQuery.
-/
import Derived.Test.YtiniphmomjnocaaW13
namespace Go.Proofs.Ytiniphmomjnocaa
open Go.AM
set_option linter.unusedSimpArgs false
set_option linter.unusedVariables false

/-! ### bits -/

def bit4 (a b c d : Bool) : Int := (if a then 1 else 0) + (if b then 2 else 0) + (if c then 4 else 0) + (if d then 8 else 0)
def bits4 (p : Nat → Bool) : Int := bit4 (p 0) (p 1) (p 2) (p 3)
theorem in4 {v : Int} (h : inR v 0 3 = true) : v = 0 ∨ v = 1 ∨ v = 2 ∨ v = 3 := by simp [inR] at h; omega

def has (xs : List Int) (v : Int) : Bool := xs.any (fun x => decide (v = x))
theorem has_iff {xs : List Int} {v : Int} : has xs v = true ↔ v ∈ xs := by
  simp only [has, List.any_eq_true, decide_eq_true_eq]
  exact ⟨fun ⟨x, h, e⟩ => e ▸ h, fun h => ⟨v, h, rfl⟩⟩
def addV (p : Nat → Bool) (vs : List Int) : Nat → Bool := fun u => p u || has vs u
theorem addV_nil (p : Nat → Bool) : addV p [] = p := by funext u; simp [addV, has]
theorem addV_cons (p : Nat → Bool) (v : Int) (vs : List Int) : addV (addV p [v]) vs = addV p (v :: vs) := by funext u; simp [addV, has, Bool.or_assoc]
theorem addV_drop (p : Nat → Bool) {vs : List Int} {i : Nat} (h : i < vs.length) : addV p (vs.drop i) = addV (addV p [vs[i]]) (vs.drop (i + 1)) := by
  rw [List.drop_eq_getElem_cons h, addV_cons]

theorem or_d : ∀ a b c d : Bool, orI (bit4 a b c d) 1 = bit4 true b c d ∧ orI (bit4 a b c d) 2 = bit4 a true c d ∧ orI (bit4 a b c d) 4 = bit4 a b true d ∧ orI (bit4 a b c d) 8 = bit4 a b c true := by decide
theorem or_bit (p : Nat → Bool) {v : Int} (h : inR v 0 3 = true) : orI (bits4 p) (shlI 1 v) = bits4 (addV p [v]) := by
  have q := or_d (p 0) (p 1) (p 2) (p 3)
  rcases in4 h with rfl | rfl | rfl | rfl <;> simp [addV, has, bits4, shlI, wrap64, q]
theorem and_d : ∀ a b c d : Bool, (andI (shrI (bit4 a b c d) 0) 1 = 1 ↔ a = true) ∧ (andI (shrI (bit4 a b c d) 1) 1 = 1 ↔ b = true) ∧ (andI (shrI (bit4 a b c d) 2) 1 = 1 ↔ c = true) ∧ (andI (shrI (bit4 a b c d) 3) 1 = 1 ↔ d = true) := by decide
theorem at_bit (p : Nat → Bool) {v : Int} (h : inR v 0 3 = true) : andI (shrI (bits4 p) v) 1 = 1 ↔ p v.toNat = true := by
  have q := and_d (p 0) (p 1) (p 2) (p 3)
  rcases in4 h with rfl | rfl | rfl | rfl <;> simp [bits4, q]
theorem and4 : ∀ a b c d a' b' c' d' : Bool, andI (bit4 a b c d) (bit4 a' b' c' d') = bit4 (a && a') (b && b') (c && c') (d && d') := by decide
theorem and_bits (p q : Nat → Bool) : andI (bits4 p) (bits4 q) = bits4 (fun u => p u && q u) := and4 _ _ _ _ _ _ _ _
theorem zero4 : ∀ a b c d : Bool, bit4 a b c d = 0 ↔ (a = false ∧ b = false ∧ c = false ∧ d = false) := by decide
theorem bits_zero (p : Nat → Bool) : bits4 p = 0 ↔ ∀ u, u < 4 → p u = false := by
  rw [bits4, zero4]
  constructor
  · rintro ⟨h0, h1, h2, h3⟩ u hu
    match u, hu with
    | 0, _ => exact h0
    | 1, _ => exact h1
    | 2, _ => exact h2
    | 3, _ => exact h3
  · intro h; exact ⟨h 0 (by omega), h 1 (by omega), h 2 (by omega), h 3 (by omega)⟩

/-! ### find -/

/-- The number of the first that answers, counted from i; -1 if none does. -/
def find1 {α : Type} (p : α → Bool) : List α → Nat → Int
  | [], _ => -1
  | x :: xs, i => if p x = true then i else find1 p xs (i + 1)
theorem find1_drop {α : Type} (p : α → Bool) {xs : List α} {i : Nat} (h : i < xs.length) : find1 p (xs.drop i) i = if p xs[i] = true then (i : Int) else find1 p (xs.drop (i + 1)) (i + 1) := by
  rw [List.drop_eq_getElem_cons h, find1]
theorem find1_none {α : Type} (p : α → Bool) (xs : List α) : ∀ i, xs.any p = false → find1 p xs i = -1 := by
  induction xs with
  | nil => intro i _; rfl
  | cons x xs ih => intro i h; simp at h; simp [find1, h]; apply ih; simp; exact h.2
theorem find1_some {α : Type} (p : α → Bool) (xs : List α) : ∀ i, xs.any p = true → 0 ≤ find1 p xs i := by
  induction xs with
  | nil => intro i h; simp at h
  | cons x xs ih =>
    intro i h
    unfold find1
    split
    · omega
    · rename_i hx; simp only [List.any_cons, hx, Bool.false_or] at h; exact ih _ h

theorem l_Index_int (xs : List Int) (v : Int) (hx : Le xs) (fr : List Fr) : ∀ i, i ≤ xs.length →
    EvL C fr [0, 1, 7, 8] B_slices_Index___int_int__0 ⟨[(0, .t (tI xs)), (1, I v), (7, I xs.length), (8, I i)], [[]], []⟩ =
    if (xs.drop i).any (fun x => decide (v = x)) = true then EvX C fr .r ⟨[(4, I (find1 (fun x => decide (v = x)) (xs.drop i) i))], [[]], []⟩
    else EvX C fr (.x 0) ⟨[(0, .t (tI xs)), (1, I v), (7, I xs.length), (8, I xs.length), (9, Bo false)], [[]], []⟩ := by
  refine down _ ?_ ?_
  · rw [EvL_eq B_slices_Index___int_int__0.eq_1]
    simp
  · intro i hi ih
    have h4 := inc64 (i := i) (by omega)
    rw [drop_any _ hi, find1_drop _ hi]
    simp only [Int.natCast_add, Int.cast_ofNat_Int] at ih
    rw [EvL_eq B_slices_Index___int_int__0.eq_1]
    by_cases e : v = xs[i]
    · simp [hi, h4, ← e]
    · simp only [e, decide_false, Bool.false_or, Bool.false_eq_true, if_false, ← ih]
      simp [hi, h4, e]
theorem c_Index_int (xs : List Int) (v : Int) (hx : Le xs) : C f_slices_Index___int_int_ [.t (tI xs), I v] [] = some (I (find1 (fun x => decide (v = x)) xs 0), []) := by
  refine run t_slices_Index___int_int_ rfl ?_
  have h3 := fun fr => l_Index_int xs v hx fr 0 (Nat.zero_le _)
  simp only [List.drop_zero] at h3
  rcases tf (xs.any (fun x => decide (v = x))) with e | e
  · rw [e] at h3
    simp at h3
    rw [find1_none _ _ _ e]
    simp [M_slices_Index___int_int_, h3]
  · rw [e] at h3
    simp at h3
    simp [M_slices_Index___int_int_, h3]
theorem c_Contains_int (xs : List Int) (v : Int) (hx : Le xs) : C f_slices_Contains___int_int_ [.t (tI xs), I v] [] = some (Bo (has xs v), []) := by
  refine run t_slices_Contains___int_int_ rfl ?_
  have q := c_Index_int xs v hx
  unfold has
  rcases tf (xs.any (fun x => decide (v = x))) with e | e
  · rw [find1_none _ _ _ e] at q
    rw [e]
    simp [M_slices_Contains___int_int_, q]
  · have := find1_some _ _ 0 e
    rw [e]
    simp [M_slices_Contains___int_int_, q, this]

abbrev tB (xs : List Bool) : T := .lst 1 (xs.map fun b => [T.bool b])
theorem l_Index_bool (xs : List Bool) (v : Bool) (hx : Le xs) (fr : List Fr) : ∀ i, i ≤ xs.length →
    EvL C fr [0, 1, 7, 8] B_slices_Index___bool_bool__0 ⟨[(0, .t (tB xs)), (1, Bo v), (7, I xs.length), (8, I i)], [[]], []⟩ =
    if (xs.drop i).any (fun x => v == x) = true then EvX C fr .r ⟨[(4, I (find1 (fun x => v == x) (xs.drop i) i))], [[]], []⟩
    else EvX C fr (.x 0) ⟨[(0, .t (tB xs)), (1, Bo v), (7, I xs.length), (8, I xs.length), (9, Bo false)], [[]], []⟩ := by
  refine down _ ?_ ?_
  · rw [EvL_eq B_slices_Index___bool_bool__0.eq_1]
    simp
  · intro i hi ih
    have h4 := inc64 (i := i) (by omega)
    rw [drop_any _ hi, find1_drop _ hi]
    simp only [Int.natCast_add, Int.cast_ofNat_Int] at ih
    rw [EvL_eq B_slices_Index___bool_bool__0.eq_1]
    rcases tf (v == xs[i]) with e | e
    · simp only [e, Bool.false_or, Bool.false_eq_true, if_false, ← ih]
      simp [hi, h4, e]
    · simp [hi, h4, e]
theorem c_Contains_bool (xs : List Bool) (v : Bool) (hx : Le xs) : C f_slices_Contains___bool_bool_ [.t (tB xs), Bo v] [] = some (Bo (xs.any (fun x => v == x)), []) := by
  have q : C f_slices_Index___bool_bool_ [.t (tB xs), Bo v] [] = some (I (find1 (fun x => v == x) xs 0), []) := by
    refine run t_slices_Index___bool_bool_ rfl ?_
    have h3 := fun fr => l_Index_bool xs v hx fr 0 (Nat.zero_le _)
    simp only [List.drop_zero] at h3
    rcases tf (xs.any (fun x => v == x)) with e | e
    · rw [e] at h3
      simp only [Bool.false_eq_true, if_false] at h3
      rw [find1_none _ _ _ e]
      simp at h3
      simp [M_slices_Index___bool_bool_, h3]
    · rw [e] at h3
      simp only [if_true] at h3
      simp at h3
      simp [M_slices_Index___bool_bool_, h3]
  refine run t_slices_Contains___bool_bool_ rfl ?_
  rcases tf (xs.any (fun x => v == x)) with e | e
  · rw [find1_none _ _ _ e] at q
    rw [e]
    simp [M_slices_Contains___bool_bool_, q]
  · have := find1_some _ _ 0 e
    rw [e]
    simp [M_slices_Contains___bool_bool_, q, this]

theorem l_l7Has (xs : List Int) (v : Int) (hx : Le xs) (fr : List Fr) : ∀ i, i ≤ xs.length →
    EvL C fr [0, 1, 5] B_spec_l7Has_0 ⟨[(0, .t (tI xs)), (1, I v), (5, I i)], [[]], []⟩ =
    if has (xs.drop i) v = true then EvX C fr .r ⟨[(4, Bo true)], [[]], []⟩
    else EvX C fr (.x 0) ⟨[(0, .t (tI xs)), (1, I v), (5, I xs.length), (9, Bo false)], [[]], []⟩ := by
  unfold has
  refine down _ ?_ ?_
  · rw [EvL_eq B_spec_l7Has_0.eq_1]
    simp
  · intro i hi ih
    have h4 := inc64 (i := i) (by omega)
    rw [drop_any _ hi]
    simp only [Int.natCast_add, Int.cast_ofNat_Int] at ih
    rw [EvL_eq B_spec_l7Has_0.eq_1]
    by_cases e : v = xs[i]
    · simp [hi, h4, ← e]
    · have e' : ¬ xs[i] = v := fun hc => e hc.symm
      simp only [e, decide_false, Bool.false_or, ← ih]
      simp [hi, h4, e']
theorem c_l7Has (xs : List Int) (v : Int) (hx : Le xs) : C f_spec_l7Has [.t (tI xs), I v] [] = some (Bo (has xs v), []) := by
  refine run t_spec_l7Has rfl ?_
  have h3 := fun fr => l_l7Has xs v hx fr 0 (Nat.zero_le _)
  simp only [List.drop_zero] at h3
  rcases tf (has xs v) with e | e
  · rw [e] at h3 ⊢
    simp at h3
    simp [M_spec_l7Has, h3]
  · rw [e] at h3 ⊢
    simp at h3
    simp [M_spec_l7Has, h3]

/-! ### names -/

def nmOk (s : ByteArray) : Bool := match s[0]? with
  | some b => decide (s.size = 1) && decide (97 ≤ (b.toNat : Int)) && decide ((b.toNat : Int) ≤ 122)
  | none => false
theorem get0 {s : ByteArray} (h : s.size = 1) : ∃ b, s[0]? = some b := ⟨s[0], getElem?_pos s 0 (by omega)⟩
theorem c_l4Name (s : ByteArray) : C f_spec_l4Name [.t (.str s)] [] = some (Bo (nmOk s), []) := by
  refine run t_spec_l4Name rfl ?_
  by_cases h : s.size = 1
  · have h0 : 0 < s.size := by omega
    by_cases h1 : (97 : Int) ≤ ((s[0]'h0).toNat : Int)
    · simp [M_spec_l4Name, nmOk, h, h1]
    · simp [M_spec_l4Name, nmOk, h, h1]
  · have h' : ¬ (s.size : Int) = 1 := by omega
    have : nmOk s = false := by unfold nmOk; split <;> simp [h]
    simp [M_spec_l4Name, h', this]
theorem c_nameOk (s : ByteArray) : C f_impl_nameOk [.t (.str s)] [] = some (Bo (nmOk s), []) := by
  refine run t_impl_nameOk rfl ?_
  by_cases h : s.size = 1
  · have h0 : 0 < s.size := by omega
    by_cases h1 : (97 : Int) ≤ ((s[0]'h0).toNat : Int)
    · simp [M_impl_nameOk, nmOk, h, h1]
    · simp [M_impl_nameOk, nmOk, h, h1]
  · have h' : ¬ (s.size : Int) = 1 := by omega
    have : nmOk s = false := by unfold nmOk; split <;> simp [h]
    simp [M_impl_nameOk, h', this]
end Go.Proofs.Ytiniphmomjnocaa
