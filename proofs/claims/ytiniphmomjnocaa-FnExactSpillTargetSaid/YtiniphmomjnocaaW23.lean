/-
  Queries: the variables of a mask, as bits and as a list.
-/
import Derived.Test.YtiniphmomjnocaaW22
namespace Go.Proofs.Ytiniphmomjnocaa
open Go.AM
set_option linter.unusedSimpArgs false
set_option linter.unusedVariables false

def inMask (m : Int) (i : Nat) : Bool := decide (andI (shrI m i) 1 = 1)
/-- does a variable occur in an atom of the mask, from atom i on -/
def hasV (m : Int) : List Atom → Nat → Int → Bool
  | [], _, _ => false
  | a :: as', i, u => (inMask m i && has a.Vars u) || hasV m as' (i + 1) u
theorem hasV_drop (m : Int) {qa : List Atom} {i : Nat} (h : i < qa.length) (u : Int) : hasV m (qa.drop i) i u = ((inMask m i && has qa[i].Vars u) || hasV m (qa.drop (i + 1)) (i + 1) u) := by
  rw [List.drop_eq_getElem_cons h, hasV]
def pV (m : Int) (qa : List Atom) : Nat → Bool := fun u => hasV m qa 0 u

/-- all variables are among the first four -/
def Var4 (qa : List Atom) : Prop := ∀ a ∈ qa, ∀ v ∈ a.Vars, inR v 0 3 = true

theorem valid_var {n : Int} {qa : List Atom} (h : validQ n qa = true) : ∀ a ∈ qa, ∀ v ∈ a.Vars, inR v 0 (n - 1) = true := by
  intro a ha v hv
  simp only [validQ, Bool.and_eq_true] at h
  have := List.all_eq_true.1 h.1.2 a ha
  simp only [okAtom, Bool.and_eq_true] at this
  exact varsOk_in this.2 v hv
theorem valid_n {n : Int} {qa : List Atom} (h : validQ n qa = true) : 1 ≤ n ∧ n ≤ 4 := by
  simp only [validQ, Bool.and_eq_true] at h
  have := h.1.1.1
  simpa [inR] using this
theorem valid_len {n : Int} {qa : List Atom} (h : validQ n qa = true) : 1 ≤ qa.length ∧ qa.length ≤ 4 := by
  simp only [validQ, Bool.and_eq_true] at h
  have := h.1.1.2
  simp [inR] at this
  omega
theorem valid_vars {n : Int} {qa : List Atom} (h : validQ n qa = true) : ∀ a ∈ qa, 1 ≤ a.Vars.length ∧ a.Vars.length ≤ 3 := by
  intro a ha
  simp only [validQ, Bool.and_eq_true] at h
  have := List.all_eq_true.1 h.1.2 a ha
  simp only [okAtom, Bool.and_eq_true] at this
  have := this.1.2
  simp [inR] at this
  omega
theorem valid4 {n : Int} {qa : List Atom} (h : validQ n qa = true) : Var4 qa := by
  intro a ha v hv
  have := valid_var h a ha v hv
  have h2 := valid_n h
  simp [inR] at this ⊢
  omega

theorem l_l7Bits0 (n m : Int) (qa : List Atom) (h4 : Var4 qa) (hv : ∀ a ∈ qa, Le a.Vars) (j : Nat) (hj : j < qa.length) (hm : inMask m j = true) (fr : List Fr) : ∀ k, k ≤ qa[j].Vars.length → ∀ p,
    EvL C fr [1, 2, 5, 6, 7] B_spec_l7Bits_0 ⟨[(1, I m), (2, .ptr 0 0), (5, I (bits4 p)), (6, I j), (7, I k)], [[]], [qB n qa]⟩ =
    EvX C fr (.x 2) ⟨[(1, I m), (2, .ptr 0 0), (5, I (bits4 (addV p (qa[j].Vars.drop k)))), (6, I j), (7, I qa[j].Vars.length), (30, Bo false)], [[]], [qB n qa]⟩ := by
  have hm' : andI (shrI m j) 1 = 1 := by simpa [inMask] using hm
  have hj0 : ¬ (j : Int) < 0 := by omega
  have hvj := hv _ (List.getElem_mem hj)
  refine down _ ?_ ?_
  · intro p
    simp only [List.drop_length, addV_nil]
    rw [EvL_eq B_spec_l7Bits_0.eq_1]
    simp [hj]
  · intro k hk ih p
    have h5 := inc64 (i := k) (by omega)
    have e1 := h4 _ (List.getElem_mem hj) _ (List.getElem_mem hk)
    have e5 := or_bit p e1
    have e6 := shl_neg e1
    have ih := ih (addV p [qa[j].Vars[k]])
    rw [addV_drop p hk, ← ih, EvL_eq B_spec_l7Bits_0.eq_1]
    simp [hj, hk, hj0, hm', h5, e5, e6]

def addM (m : Int) (p : Nat → Bool) (qa : List Atom) (i : Nat) : Nat → Bool := fun u => p u || hasV m (qa.drop i) i u
theorem addM_step (m : Int) (p : Nat → Bool) {qa : List Atom} {i : Nat} (h : i < qa.length) : addM m p qa i = addM m (if inMask m i = true then addV p qa[i].Vars else p) qa (i + 1) := by
  funext u
  rw [addM, hasV_drop _ h]
  rcases tf (inMask m i) with e | e <;> simp [addM, addV, e, Bool.or_assoc]

theorem l_l7Bits1 (n m : Int) (qa : List Atom) (h4 : Var4 qa) (hl : Le qa) (hv : ∀ a ∈ qa, Le a.Vars) (fr : List Fr) : ∀ i, i ≤ qa.length → ∀ p,
    EvL C fr [1, 2, 5, 6] B_spec_l7Bits_1 ⟨[(1, I m), (2, .ptr 0 0), (5, I (bits4 p)), (6, I i)], [[]], [qB n qa]⟩ =
    EvX C fr (.x 0) ⟨[(1, I m), (2, .ptr 0 0), (5, I (bits4 (addM m p qa i))), (6, I qa.length), (12, Bo false)], [[]], [qB n qa]⟩ := by
  refine down _ ?_ ?_
  · intro p
    have e : addM m p qa qa.length = p := by funext u; simp [addM, hasV]
    rw [e, EvL_eq B_spec_l7Bits_1.eq_1]
    simp
  · intro i hi ih p
    have h5 := inc64 (i := i) (by omega)
    have hi0 : ¬ (i : Int) < 0 := by omega
    rw [addM_step m p hi, ← ih, EvL_eq B_spec_l7Bits_1.eq_1]
    rcases tf (inMask m i) with e | e
    · have e' : ¬ andI (shrI m i) 1 = 1 := by simpa [inMask] using e
      by_cases e2 : 0 < qa[i].Vars.length
      · simp [hi, h5, e, e', hi0, e2, EvL_eq B_spec_l7Bits_0.eq_1]
      · simp [hi, h5, e, e', hi0, e2, EvL_eq B_spec_l7Bits_0.eq_1]
    · have b := fun fr => l_l7Bits0 n m qa h4 hv i hi e fr 0 (Nat.zero_le _) p
      simp at b
      simp [hi, h5, e, b]
theorem c_l7Bits (n m : Int) (qa : List Atom) (h4 : Var4 qa) (hl : Le qa) (hv : ∀ a ∈ qa, Le a.Vars) : C f_spec_l7Bits [.agg [I n, L 2 (qa.map Atom.c)], I m] [] = some (I (bits4 (pV m qa)), []) := by
  refine run t_spec_l7Bits rfl ?_
  have b := fun fr => l_l7Bits1 n m qa h4 hl hv fr 0 (Nat.zero_le _) (fun _ => false)
  have ez : bits4 (fun _ => false) = 0 := rfl
  have e : addM m (fun _ => false) qa 0 = pV m qa := by funext u; simp [addM, pV]
  rw [ez, e] at b
  simp at b
  simp [M_spec_l7Bits, b]

theorem c_l23In (p : Nat → Bool) (v : Int) : C f_spec_l23In [I (bits4 p), I v] [] = some (Bo (inR v 0 3 && p v.toNat), []) := by
  refine run t_spec_l23In rfl ?_
  rcases tf (inR v 0 3) with e | e
  · simp [M_spec_l23In, e]
  · have e6 := shl_neg e
    have q := at_bit p e
    rcases tf (p v.toNat) with e2 | e2
    · rw [e2] at q
      have q' : ¬ andI (shrI (bits4 p) v) 1 = 1 := fun hc => by have := q.1 hc; cases this
      simp [M_spec_l23In, e, e6, q', e2]
    · have q' := q.2 e2
      simp [M_spec_l23In, e, e6, q', e2]

/-! ### the program's lists -/

def varL (m : Int) (qa : List Atom) (k : Nat) : List Int := ((List.range k).filter (pV m qa)).map fun u : Nat => (u : Int)
theorem varL_succ (m : Int) (qa : List Atom) (k : Nat) : varL m qa (k + 1) = varL m qa k ++ if hasV m qa 0 k = true then [(k : Int)] else [] := by
  unfold varL
  rw [List.range_succ, List.filter_append, List.map_append]
  rcases tf (hasV m qa 0 k) with e | e <;> simp [pV, e]
theorem varL_len (m : Int) (qa : List Atom) (k : Nat) : (varL m qa k).length ≤ k := by
  unfold varL
  simp
  exact Nat.le_trans (List.length_filter_le _ _) (by simp)

theorem l_variables0 (n m : Int) (v : Nat) (qa : List Atom) (es : List (List T)) (hes : es.length ≤ 100) (hl : Le qa) (hv : ∀ a ∈ qa, Le a.Vars) : ∀ i, i ≤ qa.length →
    if hasV m (qa.drop i) i v = true then ∃ a, ∀ fr, EvL C fr [1, 2, 5, 6, 17, 18, 19] B_impl_variables_0 ⟨[(1, I m), (2, .ptr 0 0), (5, .own 1), (6, I v), (17, L 2 (qa.map Atom.c)), (18, I qa.length), (19, I i)], [[]], [qB n qa, .arr t_int 1 true es]⟩ =
      EvX C fr (.x 2) ⟨[(1, I m), (2, .ptr 0 0), (5, .own 4), (6, I v)], [[]], [qB n qa, .dead, aB a, .dead, .arr t_int 1 true (es ++ [[.int .i64 v]])]⟩
    else ∀ fr, EvL C fr [1, 2, 5, 6, 17, 18, 19] B_impl_variables_0 ⟨[(1, I m), (2, .ptr 0 0), (5, .own 1), (6, I v), (17, L 2 (qa.map Atom.c)), (18, I qa.length), (19, I i)], [[]], [qB n qa, .arr t_int 1 true es]⟩ =
      EvX C fr (.x 2) ⟨[(1, I m), (2, .ptr 0 0), (5, .own 1), (6, I v), (17, L 2 (qa.map Atom.c)), (18, I qa.length), (19, I qa.length), (20, Bo false)], [[]], [qB n qa, .arr t_int 1 true es]⟩ := by
  refine down _ ?_ ?_
  · simp only [List.drop_length, hasV, Bool.false_eq_true, if_false]
    intro fr
    rw [EvL_eq B_impl_variables_0.eq_1]
    simp
  · intro i hi ih
    have h5 := inc64 (i := i) (by omega)
    have hi0 : ¬ (i : Int) < 0 := by omega
    have q := c_Contains_int qa[i].Vars v (hv _ (List.getElem_mem hi))
    have r1 : (es.length + 1) * 8 ≤ room := room1 (by omega) (by omega)
    have r2 : es.length + 1 ≤ room := room2 (by omega)
    rw [hasV_drop _ hi]
    rcases tf (inMask m i && has qa[i].Vars v) with e | e
    · have e5 : ∀ fr, EvL C fr [1, 2, 5, 6, 17, 18, 19] B_impl_variables_0 ⟨[(1, I m), (2, .ptr 0 0), (5, .own 1), (6, I v), (17, L 2 (qa.map Atom.c)), (18, I qa.length), (19, I i)], [[]], [qB n qa, .arr t_int 1 true es]⟩ =
          EvL C fr [1, 2, 5, 6, 17, 18, 19] B_impl_variables_0 ⟨[(1, I m), (2, .ptr 0 0), (5, .own 1), (6, I v), (17, L 2 (qa.map Atom.c)), (18, I qa.length), (19, I (i + 1 : Nat))], [[]], [qB n qa, .arr t_int 1 true es]⟩ := by
        intro fr
        rw [EvL_eq B_impl_variables_0.eq_1]
        rcases tf (inMask m i) with e1 | e1
        · have e' : ¬ andI (shrI m i) 1 = 1 := by simpa [inMask] using e1
          simp [hi, h5, e', hi0]
        · have e' : andI (shrI m i) 1 = 1 := by simpa [inMask] using e1
          have e2 : has qa[i].Vars v = false := by simpa [e1] using e
          simp [hi, h5, e', hi0, q, e2]
      simp only [e, Bool.false_or, e5]
      exact ih
    · simp only [e, Bool.true_or, if_true]
      simp only [Bool.and_eq_true] at e
      have e' : andI (shrI m i) 1 = 1 := by simpa [inMask] using e.1
      refine ⟨qa[i], fun fr => ?_⟩
      rw [EvL_eq B_impl_variables_0.eq_1]
      simp [hi, h5, e', hi0, q, e.2, r1, r2]

theorem l_variables1 (n : Nat) (hn : n ≤ 4) (m : Int) (qa : List Atom) (hl : Le qa) (hv : ∀ a ∈ qa, Le a.Vars) : ∀ v, v ≤ n → ∀ fr,
    EvL C fr [1, 2, 5, 6] B_impl_variables_1 ⟨[(1, I m), (2, .ptr 0 0), (5, .own 1), (6, I v)], [[]], [qB n qa, .arr t_int 1 true ((varL m qa v).map ic)]⟩ =
    EvX C fr (.x 0) ⟨[(1, I m), (2, .ptr 0 0), (5, .own 1), (6, I n), (13, Bo false)], [[]], [qB n qa, .arr t_int 1 true ((varL m qa n).map ic)]⟩ := by
  refine down _ ?_ ?_
  · intro fr
    rw [EvL_eq B_impl_variables_1.eq_1]
    simp
  · intro v hvn ih fr
    have h5 := inc64 (i := v) (by omega)
    have hlen := varL_len m qa v
    have b := l_variables0 n m v qa ((varL m qa v).map ic) (by simp; omega) hl hv 0 (Nat.zero_le _)
    simp only [List.drop_zero] at b
    rw [← ih, EvL_eq B_impl_variables_1.eq_1, varL_succ]
    have hv2 : (v : Int) < (n : Int) := by omega
    rcases tf (hasV m qa 0 v) with e | e
    · simp only [e, Bool.false_eq_true, if_false] at b ⊢
      simp at b
      simp [h5, hvn, b]
    · simp only [e, if_true] at b ⊢
      obtain ⟨a, b⟩ := b
      simp at b
      simp [h5, hvn, b]
theorem c_variables (n m : Int) (qa : List Atom) (hn : 1 ≤ n ∧ n ≤ 4) (hl : Le qa) (hv : ∀ a ∈ qa, Le a.Vars) : C f_impl_variables [.agg [I n, L 2 (qa.map Atom.c)], I m] [] = some (.own 0, [.arr t_int 1 true ((varL m qa n.toNat).map ic)]) := by
  refine run t_impl_variables rfl ?_
  obtain ⟨k, rfl⟩ : ∃ k : Nat, n = k := ⟨n.toNat, by omega⟩
  have b := l_variables1 k (by omega) m qa hl hv 0 (Nat.zero_le _)
  have ez : varL m qa 0 = [] := rfl
  rw [ez] at b
  simp at b
  simp [M_impl_variables, b]

theorem filter_take {α : Type} (p : α → Bool) {xs : List α} {i : Nat} (h : i < xs.length) : (xs.take (i + 1)).filter p = (xs.take i).filter p ++ if p xs[i] = true then [xs[i]] else [] := by
  rw [List.take_add_one, List.getElem?_eq_getElem h, List.filter_append]
  rcases tf (p xs[i]) with e | e <;> simp [e]
theorem l_both (xs ys : List Int) (hx : Le xs) (hy : Le ys) (fr : List Fr) : ∀ i, i ≤ xs.length →
    EvL C fr [1, 5, 9, 10, 11] B_impl_both_0 ⟨[(1, .t (tI ys)), (5, .own 0), (9, .t (tI xs)), (10, I xs.length), (11, I i)], [[]], [.arr t_int 1 true (((xs.take i).filter (has ys)).map ic)]⟩ =
    EvX C fr (.x 0) ⟨[(1, .t (tI ys)), (5, .own 0), (9, .t (tI xs)), (10, I xs.length), (11, I xs.length), (12, Bo false)], [[]], [.arr t_int 1 true ((xs.filter (has ys)).map ic)]⟩ := by
  refine down _ ?_ ?_
  · rw [EvL_eq B_impl_both_0.eq_1]
    simp
  · intro i hi ih
    have h5 := inc64 (i := i) (by omega)
    have q := c_Contains_int ys xs[i] hy
    have hlen : ((xs.take i).filter (has ys)).length ≤ i := Nat.le_trans (List.length_filter_le _ _) (by simp; omega)
    have r1 : (((xs.take i).filter (has ys)).length + 1) * 8 ≤ room := room1 (by omega) (by omega)
    have r2 : ((xs.take i).filter (has ys)).length + 1 ≤ room := room2 (by omega)
    rw [← ih, EvL_eq B_impl_both_0.eq_1, filter_take _ hi]
    rcases tf (has ys xs[i]) with e | e
    · simp [hi, h5, q, e]
    · simp [hi, h5, q, e, r1, r2]
theorem c_both (xs ys : List Int) (hx : Le xs) (hy : Le ys) : C f_impl_both [.t (tI xs), .t (tI ys)] [] = some (.own 0, [.arr t_int 1 true ((xs.filter (has ys)).map ic)]) := by
  refine run t_impl_both rfl ?_
  have b := fun fr => l_both xs ys hx hy fr 0 (Nat.zero_le _)
  simp at b
  simp [M_impl_both, b]
end Go.Proofs.Ytiniphmomjnocaa
