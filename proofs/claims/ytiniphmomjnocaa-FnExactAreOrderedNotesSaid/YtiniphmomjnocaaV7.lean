/-
  Contracts: the reference's bouquets; ordered notes; the law.
-/
import Derived.Test.YtiniphmomjnocaaV6
import Derived.Test.YtiniphmomjnocaaFA
namespace Go.Proofs.Ytiniphmomjnocaa
open Go.AM
set_option linter.unusedSimpArgs false
set_option linter.unusedVariables false
set_option maxHeartbeats 1000000

theorem l_spec_B1 (b : Bouquet) (hl : LeB b) (k : Nat) (hk : k < b.Contours.length) (r : AV × List Blk) : ∀ i, i ≤ b.Contours[k].length →
    (if varsOk b.Plans.length (b.Contours[k].take i) (b.Contours[k].drop i) = true then L_spec_IsValidBouquet_2 b (w ((k : Int) + 1)) = some r else some (Bo false, []) = some r) →
    L_spec_IsValidBouquet_1 b k i = some r := by
  obtain ⟨l1, l2, l3, l4, l5, l6⟩ := hl
  have l7 := l6 _ (List.getElem_mem hk)
  have hw : w ((b.Plans.length : Int) - 1) = (b.Plans.length : Int) - 1 := wrap64 (by omega) (by omega)
  refine down _ ?_ ?_
  · intro h
    refine SL_spec_IsValidBouquet_1 _ _ _ _ ?_
    simp [varsOk] at h
    simp [hk, h]
  · intro i hi ih h
    refine SL_spec_IsValidBouquet_1 _ _ _ _ ?_
    have h4 := inc64 (i := i) (by omega)
    have c1 := x_l7Has (b.Contours[k].take i) b.Contours[k][i] (by simp; omega)
    have e7 : i ≤ b.Contours[k].length := by omega
    rw [varsOk_drop _ hi] at h
    simp at ih
    rcases tf (inR b.Contours[k][i] 0 ((b.Plans.length : Int) - 1)) with e1 | e1
    · simp [e1] at h
      simp [hk, hi, h4, hw, e1, ← h]
    · rcases tf (has (b.Contours[k].take i) b.Contours[k][i]) with e2 | e2
      · simp only [e1, e2, Bool.true_and, Bool.not_false] at h
        have ih := ih (by simpa using h)
        simp [hk, hi, h4, hw, e1, e2, c1, e7, ih]
      · simp [e1, e2] at h
        simp [hk, hi, h4, hw, e1, e2, c1, e7, ← h]
theorem l_spec_B2 (b : Bouquet) (hr : inR b.Ratio 2 8 = true) (hl : LeB b) (hc : b.Contours.length = b.Budgets.length) : ∀ k, k ≤ b.Budgets.length → (∀ p, prevAt b.Budgets k = some p → inR p 1 500000000000 = true) →
    L_spec_IsValidBouquet_2 b k = some (Bo (budOk b.Ratio (prevAt b.Budgets k) (b.Budgets.drop k) && (b.Contours.drop k).all (diffIdx b.Plans.length)), []) := by
  have hl' := hl
  obtain ⟨l1, l2, l3, l4, l5, l6⟩ := hl
  refine down _ ?_ ?_
  · intro _
    refine SL_spec_IsValidBouquet_2 _ _ _ ?_
    rw [if_neg (by omega), ← hc, List.drop_length, hc, List.drop_length]
    simp [budOk]
  · intro k hk ih hp
    have hk2 : k < b.Contours.length := by omega
    have h4 := inc64 (i := k) (by omega)
    rw [budOk_drop _ _ hk, drop_all _ hk2]
    rcases tf (inR b.Budgets[k] 1 500000000000) with e1 | e1
    · refine SL_spec_IsValidBouquet_2 _ _ _ ?_
      simp [hk, e1]
    have pk : prevAt b.Budgets (k + 1) = some b.Budgets[k] := by simp [prevAt, List.getElem?_eq_getElem hk]
    rw [pk] at ih
    have ih := ih (fun p h => by cases h; exact e1)
    have tail : ∀ pr : Bool, pr = true → (∀ x, b.Contours[k]? = some x → (if (x.length : Int) = 0 then some (Bo false, []) = some (Bo (inR b.Budgets[k] 1 500000000000 && pr && budOk b.Ratio (some b.Budgets[k]) (b.Budgets.drop (k + 1)) && (diffIdx b.Plans.length b.Contours[k] && (b.Contours.drop (k + 1)).all (diffIdx b.Plans.length))), ([] : List Blk))
        else L_spec_IsValidBouquet_1 b k 0 = some (Bo (inR b.Budgets[k] 1 500000000000 && pr && budOk b.Ratio (some b.Budgets[k]) (b.Budgets.drop (k + 1)) && (diffIdx b.Plans.length b.Contours[k] && (b.Contours.drop (k + 1)).all (diffIdx b.Plans.length))), []))) := by
      intro pr hpr x hx
      rw [List.getElem?_eq_getElem hk2] at hx
      cases hx
      rw [hpr, e1]
      by_cases e3 : b.Contours[k].length = 0
      · rw [if_pos (by omega)]
        simp [diffIdx, e3]
      · rw [if_neg (by omega)]
        refine l_spec_B1 b hl' k hk2 _ 0 (Nat.zero_le _) ?_
        rw [List.take_zero, List.drop_zero, show w ((k : Int) + 1) = (k : Int) + 1 from h4]
        rcases tf (varsOk b.Plans.length [] b.Contours[k]) with e4 | e4
        · simp [e4, diffIdx]
        · rw [if_pos e4]
          simp only [Int.natCast_add, Int.cast_ofNat_Int] at ih
          rw [ih]
          have e5 : 0 < b.Contours[k].length := by omega
          simp [diffIdx, e4, e5]
    refine SL_spec_IsValidBouquet_2 _ _ _ ?_
    rw [if_pos (by omega)]
    refine ⟨by omega, b.Budgets[k], by rw [Int.toNat_natCast]; exact List.getElem?_eq_getElem hk, true, by rw [x_l1In, e1], ?_⟩
    rw [if_pos rfl]
    cases k with
    | zero =>
      rw [if_neg (by omega)]
      refine ⟨b.Contours[0], by simp, ?_⟩
      have := tail true rfl b.Contours[0] (by simp)
      simp only [prevAt, prevOk]
      exact this
    | succ j =>
      have hj : j < b.Budgets.length := by omega
      have hpj : prevAt b.Budgets (j + 1) = some b.Budgets[j] := by simp [prevAt, List.getElem?_eq_getElem hj]
      have hb := hp _ hpj
      rw [hpj]
      simp only [prevOk]
      simp [inR] at hb hr
      have m1 : b.Budgets[j] * b.Ratio ≤ 500000000000 * 8 := Int.mul_le_mul hb.2 hr.2 (by omega) (by omega)
      have m2 : 0 ≤ b.Budgets[j] * b.Ratio := Int.mul_nonneg (by omega) (by omega)
      have w1 : w (b.Budgets[j] * b.Ratio) = b.Budgets[j] * b.Ratio := wrap64 (by omega) (by omega)
      have w2 : w (((j + 1 : Nat) : Int) - 1) = j := by rw [show ((j + 1 : Nat) : Int) - 1 = j by omega]; exact wrap64 (by omega) (by omega)
      rw [if_pos (by omega), w2]
      refine ⟨by omega, b.Budgets[j], by rw [Int.toNat_natCast]; exact List.getElem?_eq_getElem hj, ?_⟩
      rw [w1]
      by_cases e2 : b.Budgets[j + 1] = b.Budgets[j] * b.Ratio
      · rw [if_pos e2]
        refine ⟨b.Contours[j + 1], by rw [Int.toNat_natCast]; exact List.getElem?_eq_getElem hk2, ?_⟩
        exact tail _ (decide_eq_true e2) _ (List.getElem?_eq_getElem hk2)
      · rw [if_neg e2, decide_eq_false e2]
        simp
theorem l_spec_B0 (q : Query) (b : Bouquet) (hq : LeQ q) (hl : LeB b) (c : Bool) (hc : L_spec_IsValidBouquet_2 b 0 = some (Bo c, [])) : ∀ k, k ≤ b.Plans.length →
    L_spec_IsValidBouquet_0 q b k = some (Bo (((b.Plans.drop k).all fun p => planOk q.VariableCount q.Atoms p && decide (fullM q.VariableCount q.Atoms ≠ 0)) && c), []) := by
  obtain ⟨l1, l2, l3, l4, l5, l6⟩ := hl
  refine down _ ?_ ?_
  · refine SL_spec_IsValidBouquet_0 _ _ _ _ ?_
    rw [if_neg (by omega), hc]
    simp
  · intro k hk ih
    refine SL_spec_IsValidBouquet_0 _ _ _ _ ?_
    have h4 := inc64 (i := k) (by omega)
    have q1 := x_spec_PlanMask q b.Plans[k] hq
    have q2 := x_spec_FullMask q hq
    rw [drop_all _ hk]
    simp at ih
    by_cases e : planMask q.VariableCount q.Atoms b.Plans[k].Steps = fullM q.VariableCount q.Atoms
    · by_cases e2 : fullM q.VariableCount q.Atoms = 0
      · simp [hk, h4, q1, q2, e, e2, planOk]
      · simp [hk, h4, q1, q2, e, e2, ih, planOk]
    · simp [hk, h4, q1, q2, e, planOk]
end Go.Proofs.Ytiniphmomjnocaa
