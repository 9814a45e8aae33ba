/-
  Contracts: variables of masks, steps, plans.
-/
import Derived.Test.YtiniphmomjnocaaV2
namespace Go.Proofs.Ytiniphmomjnocaa
open Go.AM
set_option linter.unusedSimpArgs false
set_option linter.unusedVariables false

theorem l_vars0 (q : Query) (m : Int) (hl : Le q.Atoms) (hv : ∀ a ∈ q.Atoms, Le a.Vars) (v : Nat) (hv4 : v < 8) (out : List Int) (ho : out.length ≤ 8) (r : AV × List Blk) : ∀ i, i ≤ q.Atoms.length →
    L_impl_variables_1 q (out ++ if hasV m (q.Atoms.drop i) i v = true then [(v : Int)] else []) m (w ((v : Int) + 1)) = some r →
    L_impl_variables_0 q out m v q.Atoms q.Atoms.length i = some r := by
  refine down _ ?_ ?_
  · intro h
    refine SL_impl_variables_0 _ _ _ _ _ _ _ _ ?_
    simpa [hasV] using h
  · intro i hi ih h
    refine SL_impl_variables_0 _ _ _ _ _ _ _ _ ?_
    have h4 := inc64 (i := i) (by omega)
    have c1 := xContainsI q.Atoms[i].Vars v (hv _ (List.getElem_mem hi))
    have h0 : ¬ (i : Int) < 0 := by omega
    rw [hasV_drop _ hi] at h
    by_cases e1 : andI (shrI m i) 1 = 1
    · have e2 : inMask m i = true := by simp [inMask, e1]
      rcases tf (has q.Atoms[i].Vars v) with e3 | e3
      · simp [e2, e3] at h
        have ih := ih (by simpa using h)
        simp at ih
        simp [hi, h4, h0, e1, c1, e3, ih]
      · simp [e2, e3] at h
        have e4 : out.length + 1 ≤ 68719476736 := by omega
        simp [hi, h4, h0, e1, c1, e3, e4, h]
    · have e2 : inMask m i = false := by simp [inMask, e1]
      simp [e2] at h
      have ih := ih (by simpa using h)
      simp at ih
      simp [hi, h4, h0, e1, ih]
theorem l_vars1 (q : Query) (m : Int) (hl : Le q.Atoms) (hv : ∀ a ∈ q.Atoms, Le a.Vars) (n : Nat) (hq : q.VariableCount = n) (hn : n ≤ 4) : ∀ k, k ≤ n →
    L_impl_variables_1 q (varL m q.Atoms k) m k = some (.own 0, [.arr t_int 1 true ((varL m q.Atoms n).map ic)]) := by
  refine down _ ?_ ?_
  · refine SL_impl_variables_1 _ _ _ _ _ ?_
    simp [hq]
  · intro k hk ih
    refine SL_impl_variables_1 _ _ _ _ _ ?_
    have h4 := inc64 (i := k) (by omega)
    have b := l_vars0 q m hl hv k (by omega) (varL m q.Atoms k) (by have := varL_len m q.Atoms k; omega) _ 0 (Nat.zero_le _) (by
      rw [List.drop_zero, ← varL_succ, show w ((k : Int) + 1) = (k : Int) + 1 from h4]; simpa using ih)
    simp at b
    simp [hq, hk, b]
@[simp] theorem x_variables (q : Query) (m : Int) (h : LeQ q) (hv : validQ q.VariableCount q.Atoms = true) : X_impl_variables q m = some (.own 0, [.arr t_int 1 true ((varL m q.Atoms q.VariableCount.toNat).map ic)]) := by
  refine S_impl_variables _ _ _ ?_
  have hn := valid_n hv
  have b := l_vars1 q m h.1 h.2 q.VariableCount.toNat (by omega) (by omega) 0 (Nat.zero_le _)
  simpa [varL] using b

theorem l_both (b xs : List Int) (hb : Le b) (hx : xs.length ≤ 1000000) : ∀ i, i ≤ xs.length →
    L_impl_both_0 ((xs.take i).filter (has b)) b xs xs.length i = some (.own 0, [.arr t_int 1 true ((xs.filter (has b)).map ic)]) := by
  refine down _ ?_ ?_
  · refine SL_impl_both_0 _ _ _ _ _ _ ?_
    simp
  · intro i hi ih
    refine SL_impl_both_0 _ _ _ _ _ _ ?_
    have h4 := inc64 (i := i) (by omega)
    have c1 := xContainsI b xs[i] hb
    have e4 : ((xs.take i).filter (has b)).length + 1 ≤ 68719476736 := by
      have := List.length_filter_le (has b) (xs.take i)
      simp at this
      omega
    rw [filter_take _ hi] at ih
    rcases tf (has b xs[i]) with e | e
    · simp [e] at ih
      simp [hi, h4, c1, e, ih]
    · simp [e] at ih
      simp [hi, h4, c1, e, e4, ih]
@[simp] theorem x_both (xs b : List Int) (hb : Le b) (hx : xs.length ≤ 1000000) : X_impl_both xs b = some (.own 0, [.arr t_int 1 true ((xs.filter (has b)).map ic)]) := by
  refine S_impl_both _ _ _ ?_
  have := l_both b xs hb hx 0 (Nat.zero_le _)
  simpa using this

theorem l_bits0 (q : Query) (m : Int) (hv : ∀ a ∈ q.Atoms, Le a.Vars) (h4v : Var4 q.Atoms) (i : Nat) (hi : i < q.Atoms.length) (hm : inMask m i = true) (r : AV × List Blk) : ∀ k, k ≤ q.Atoms[i].Vars.length → ∀ p,
    L_spec_l7Bits_1 q m (bits4 (addV p (q.Atoms[i].Vars.drop k))) (w ((i : Int) + 1)) = some r → L_spec_l7Bits_0 q m (bits4 p) i k = some r := by
  have e1 : andI (shrI m i) 1 = 1 := by simpa [inMask] using hm
  have h0 : ¬ (i : Int) < 0 := by omega
  have ha := List.getElem_mem hi
  refine down _ ?_ ?_
  · intro p h
    refine SL_spec_l7Bits_0 _ _ _ _ _ _ ?_
    rw [List.drop_length, addV_nil] at h
    simp [hi, h]
  · intro k hk ih p h
    refine SL_spec_l7Bits_0 _ _ _ _ _ _ ?_
    have h4 := inc64 (i := k) (by have := hv _ ha; omega)
    have e6 := or_bit p (v := q.Atoms[i].Vars[k]) (h4v _ ha _ (List.getElem_mem hk))
    have e7 := h4v _ ha _ (List.getElem_mem hk)
    simp [inR] at e7
    have e8 : ¬ q.Atoms[i].Vars[k] < 0 := by omega
    rw [addV_drop p hk] at h
    have ih := ih _ h
    simp at ih
    simp [hi, hk, h0, e1, h4, e6, e7, e8, ih]
theorem l_bits1 (q : Query) (m : Int) (hl : Le q.Atoms) (hv : ∀ a ∈ q.Atoms, Le a.Vars) (h4v : Var4 q.Atoms) : ∀ i, i ≤ q.Atoms.length → ∀ p,
    L_spec_l7Bits_1 q m (bits4 p) i = some (I (bits4 (addM m p q.Atoms i)), []) := by
  refine down _ ?_ ?_
  · intro p
    refine SL_spec_l7Bits_1 _ _ _ _ _ ?_
    have e : addM m p q.Atoms q.Atoms.length = p := by funext u; simp [addM, hasV]
    simp [e]
  · intro i hi ih p
    refine SL_spec_l7Bits_1 _ _ _ _ _ ?_
    have h4 := inc64 (i := i) (by omega)
    have h0 : ¬ (i : Int) < 0 := by omega
    rw [addM_step m p hi]
    rcases tf (inMask m i) with e | e
    · have e1 : ¬ andI (shrI m i) 1 = 1 := by simpa [inMask] using e
      have ih := ih p
      simp at ih
      have b : L_spec_l7Bits_0 q m (bits4 p) i 0 = some (I (bits4 (addM m p q.Atoms (i + 1))), []) := by
        refine SL_spec_l7Bits_0 _ _ _ _ _ _ ?_
        simp [hi, h0, e1, h4, ih]
      simp [hi, e, b]
    · have ih := ih (addV p q.Atoms[i].Vars)
      have b := l_bits0 q m hv h4v i hi e _ 0 (Nat.zero_le _) p (by rw [List.drop_zero, show w ((i : Int) + 1) = (i : Int) + 1 from h4]; simpa using ih)
      simp at b
      simp [hi, e, b]
@[simp] theorem x_l7Bits (q : Query) (m : Int) (h : LeQ q) (h4v : Var4 q.Atoms) : X_spec_l7Bits q m = some (I (bits4 (pV m q.Atoms)), []) := by
  refine S_spec_l7Bits _ _ _ ?_
  have b := l_bits1 q m h.1 h.2 h4v 0 (Nat.zero_le _) (fun _ => false)
  have ez : bits4 (fun _ => false) = 0 := rfl
  have e : addM m (fun _ => false) q.Atoms 0 = pV m q.Atoms := by funext u; simp [addM, pV]
  rw [ez, e] at b
  simpa using b
end Go.Proofs.Ytiniphmomjnocaa
