/-
  Contracts: the program's PlanInfo, PlanMask; indices; bouquets.
-/
import Derived.Test.YtiniphmomjnocaaV5
namespace Go.Proofs.Ytiniphmomjnocaa
open Go.AM
set_option linter.unusedSimpArgs false
set_option linter.unusedVariables false
set_option maxHeartbeats 1000000

theorem l_impl_PlanInfo (q : Query) (hq : LeQ q) (h : validQ q.VariableCount q.Atoms = true) (steps : List PlanStep) (hl : steps.length ≤ 14) : ∀ i, i ≤ steps.length → ∀ info st, StOk info st → info.length = i → st.length ≤ i →
    L_impl_PlanInfo_0 q info st steps steps.length i = some (match planGo q.Atoms (steps.drop i) i info st with
      | some (info', st') => if st'.length = 1 then (.tup [.own 0, Bo true], [.arr t_impl_StepInfo 4 true (info'.map StepInfo.c)]) else (.tup [.t .nil, Bo false], [])
      | none => (.tup [.t .nil, Bo false], [])) := by
  refine down _ ?_ ?_
  · intro info st _ _ _
    rw [List.drop_length, planGo]
    refine SL_impl_PlanInfo_0 _ _ _ _ _ _ _ ?_
    by_cases c : st.length = 1
    · simp [c]
    · have c' : ¬ (st.length : Int) = 1 := by omega
      simp [c, c']
  · intro i hi ih info st hs hil hst
    have h5 := inc64 (i := i) (by omega)
    have s1 := x_stepInfo q hq h steps[i] info st hs (by omega) (by omega)
    rw [planGo_drop q.Atoms hi]
    refine SL_impl_PlanInfo_0 _ _ _ _ _ _ _ ?_
    cases he : stepI q.Atoms steps[i] info st with
    | none =>
      rw [he] at s1
      obtain ⟨y, s1⟩ := s1
      rw [if_pos (by omega)]
      refine ⟨by omega, _, List.getElem?_eq_getElem hi, _, _, s1, ?_⟩
      simp
    | some y =>
      rw [he] at s1
      obtain ⟨f1, f2, f3⟩ := step_facts hs he
      have hn := st_next hs y (st.length - pops y)
      rw [hil] at hn
      have ih := ih (info ++ [y]) (st.take (st.length - pops y) ++ [(i : Int)]) hn (by simp [hil]) (st_len hst _)
      rw [if_pos (by omega)]
      refine ⟨by omega, _, List.getElem?_eq_getElem hi, _, _, s1, ?_⟩
      rw [if_pos rfl]
      refine ⟨by omega, ?_⟩
      simp only
      unfold pops at ih f2 ⊢
      rw [show w ((i : Int) + 1) = (i : Int) + 1 from h5]
      by_cases r : 0 ≤ y.Right
      · simp only [if_pos r] at ih f2 ⊢
        have w2 : w ((st.length : Int) - 2) = (st.length : Int) - 2 := wrap64 (by omega) (by omega)
        have z2 : ((st.length : Int) - 2).toNat = st.length - 2 := by omega
        rw [w2, z2]
        refine ⟨by omega, by omega, by omega, by simpa using ih⟩
      · simp only [if_neg r] at ih f2 ⊢
        by_cases l : 0 ≤ y.Left
        · simp only [if_pos l] at ih f2 ⊢
          have w2 : w ((st.length : Int) - 1) = (st.length : Int) - 1 := wrap64 (by omega) (by omega)
          have z2 : ((st.length : Int) - 1).toNat = st.length - 1 := by omega
          rw [w2, z2]
          refine ⟨by omega, by omega, by omega, by simpa using ih⟩
        · simp only [if_neg l] at ih f2 ⊢
          exact ⟨by omega, by simpa using ih⟩
@[simp] theorem x_impl_PlanInfo (q : Query) (p : Plan) (hq : LeQ q) : X_impl_PlanInfo q p = some (match planInfo q.VariableCount q.Atoms p.Steps with
    | some info => (.tup [.own 0, Bo true], [.arr t_impl_StepInfo 4 true (info.map StepInfo.c)])
    | none => (.tup [.t .nil, Bo false], [])) := by
  refine S_impl_PlanInfo _ _ _ ?_
  have q1 := x_impl_IsValidQuery q hq
  unfold planInfo
  rcases tf (validQ q.VariableCount q.Atoms) with e | e
  · simp [q1, e]
  rcases tf (inR p.Steps.length 1 14) with e2 | e2
  · simp [q1, e, e2]
  · have e3 := e2
    simp [inR] at e3
    have b := l_impl_PlanInfo q hq e p.Steps (by omega) 0 (Nat.zero_le _) [] [] (fun s hs => by cases hs) rfl (Nat.le_refl _)
    simp only [List.drop_zero] at b
    simp only [q1, e, e2, x_within, Option.some.injEq, Prod.mk.injEq, AV.t.injEq, T.bool.injEq, and_true, exists_eq_left', if_true, and_self]
    refine Eq.trans b ?_
    cases planGo q.Atoms p.Steps 0 [] [] with
    | none => rfl
    | some r => obtain ⟨a, b⟩ := r; simp only; split <;> rfl

@[simp] theorem x_impl_PlanMask (q : Query) (p : Plan) (hq : LeQ q) : X_impl_PlanMask q p = some (I (planMask q.VariableCount q.Atoms p.Steps), []) := by
  refine S_impl_PlanMask _ _ _ ?_
  have q1 := x_impl_PlanInfo q p hq
  unfold planMask
  cases he : planInfo q.VariableCount q.Atoms p.Steps with
  | none => rw [he] at q1; exact .inl ⟨q1, rfl⟩
  | some info =>
    obtain ⟨l1, l2, l3, l4⟩ := planInfo_len he
    rw [he] at q1
    have hlt : info.length - 1 < info.length := by omega
    have w1 : w ((info.length : Int) - 1) = (info.length : Int) - 1 := wrap64 (by omega) (by omega)
    have z2 : ((info.length : Int) - 1).toNat = info.length - 1 := by omega
    refine .inr ⟨info, q1, ?_⟩
    rw [w1, z2]
    refine ⟨by omega, _, List.getElem?_eq_getElem hlt, ?_⟩
    simp [List.getElem?_eq_getElem hlt]
@[simp] theorem x_spec_PlanMask (q : Query) (p : Plan) (hq : LeQ q) : X_spec_PlanMask q p = some (I (planMask q.VariableCount q.Atoms p.Steps), []) := by
  refine S_spec_PlanMask _ _ _ ?_
  have q1 := x_spec_PlanInfo q p hq
  unfold planMask
  cases he : planInfo q.VariableCount q.Atoms p.Steps with
  | none => rw [he] at q1; exact ⟨[], false, q1, by simp⟩
  | some info =>
    obtain ⟨l1, l2, l3, l4⟩ := planInfo_len he
    rw [he] at q1
    have hlt : info.length - 1 < info.length := by omega
    have w1 : w ((info.length : Int) - 1) = (info.length : Int) - 1 := wrap64 (by omega) (by omega)
    have z2 : ((info.length : Int) - 1).toNat = info.length - 1 := by omega
    refine ⟨info, true, q1, ?_⟩
    rw [if_pos rfl, w1, z2]
    refine ⟨by omega, _, List.getElem?_eq_getElem hlt, ?_⟩
    simp [List.getElem?_eq_getElem hlt]

/-! ### indices, slack -/

theorem l_diffIdx (l : List Int) (n : Nat) (hn : n ≤ 1099511627776) (hl : Le l) : ∀ k, k ≤ l.length → L_impl_differentIndices_0 l n l l.length k = some (Bo (varsOk n (l.take k) (l.drop k) && decide (0 < l.length)), []) := by
  have hw : w ((n : Int) - 1) = (n : Int) - 1 := wrap64 (by omega) (by omega)
  refine down _ ?_ ?_
  · refine SL_impl_differentIndices_0 _ _ _ _ _ _ ?_
    simp [varsOk]
  · intro k hk ih
    refine SL_impl_differentIndices_0 _ _ _ _ _ _ ?_
    have h4 := inc64 (i := k) (by omega)
    have c1 := xContainsI (l.take k) l[k] (by simp; omega)
    have e7 : k ≤ l.length := by omega
    rw [varsOk_drop _ hk]
    simp at ih
    rcases tf (inR l[k] 0 ((n : Int) - 1)) with e1 | e1
    · simp [hk, h4, hw, e1]
    · rcases tf (has (l.take k) l[k]) with e2 | e2
      · simp [hk, h4, hw, e1, e2, c1, e7, ih]
      · simp [hk, h4, hw, e1, e2, c1, e7]
@[simp] theorem x_diffIdx (l : List Int) (n : Nat) (hn : n ≤ 1099511627776) (hl : Le l) : X_impl_differentIndices l n = some (Bo (varsOk n [] l && decide (0 < l.length)), []) := by
  refine S_impl_differentIndices _ _ _ ?_
  have := l_diffIdx l n hn hl 0 (Nat.zero_le _)
  simpa using this
@[simp] theorem x_impl_Slack (b s : Int) : X_impl_SlackBudget b s = some (I (slackB b s), []) := by
  refine S_impl_SlackBudget _ _ _ ?_
  unfold slackB
  rcases tf (inR b 0 1000000000000) with e1 | e1
  · simp [e1]
  rcases tf (inR s 0 100) with e2 | e2
  · simp [e1, e2]
  · obtain ⟨w1, w2, w3⟩ := slack_w e1 e2
    simp [e1, e2, w1, w2, w3]
@[simp] theorem x_spec_Slack (b s : Int) : X_spec_SlackBudget b s = some (I (slackB b s), []) := by
  refine S_spec_SlackBudget _ _ _ ?_
  unfold slackB
  rcases tf (inR b 0 1000000000000) with e1 | e1
  · simp [e1]
  rcases tf (inR s 0 100) with e2 | e2
  · simp [e1, e2]
  · obtain ⟨w1, w2, w3⟩ := slack_w e1 e2
    simp [e1, e2, w1, w2, w3]
theorem l_l27Find (xs : List Int) (v : Int) (hx : Le xs) : ∀ i, i ≤ xs.length → L_spec_l27Find_0 xs v i = some (I (find1 (fun x => decide (v = x)) (xs.drop i) i), []) := by
  refine down _ ?_ ?_
  · refine SL_spec_l27Find_0 _ _ _ _ ?_
    simp [find1]
  · intro i hi ih
    refine SL_spec_l27Find_0 _ _ _ _ ?_
    have h4 := inc64 (i := i) (by omega)
    rw [find1_drop _ hi]
    simp at ih
    by_cases e : v = xs[i]
    · simp [hi, h4, ← e]
    · have e' : ¬ xs[i] = v := fun hc => e hc.symm
      simp [hi, h4, e, e', ih]
@[simp] theorem x_l27Find (xs : List Int) (v : Int) (hx : Le xs) : X_spec_l27Find xs v = some (I (find1 (fun x => decide (v = x)) xs 0), []) := by
  refine S_spec_l27Find _ _ _ ?_
  have := l_l27Find xs v hx 0 (Nat.zero_le _)
  simpa using this

/-! ### bouquets -/

theorem l_impl_B2 (b : Bouquet) (hl : LeB b) : ∀ k, k ≤ b.Contours.length →
    L_impl_IsValidBouquet_2 b b.Contours b.Contours.length k = some (Bo ((b.Contours.drop k).all (diffIdx b.Plans.length) && (decide (0 < b.Budgets.length) && decide (b.Contours.length = b.Budgets.length))), []) := by
  obtain ⟨l1, l2, l3, l4, l5, l6⟩ := hl
  refine down _ ?_ ?_
  · refine SL_impl_IsValidBouquet_2 _ _ _ _ _ ?_
    by_cases e1 : 0 < b.Budgets.length
    · have e2 : (0 : Int) < b.Budgets.length := by omega
      rw [if_neg (by omega), if_pos e2]
      simp [e1, Int.natCast_inj]
    · have e2 : ¬ (0 : Int) < b.Budgets.length := by omega
      rw [if_neg (by omega), if_neg e2]
      simp [e1]
  · intro k hk ih
    refine SL_impl_IsValidBouquet_2 _ _ _ _ _ ?_
    have h4 := inc64 (i := k) (by omega)
    have c1 := x_diffIdx b.Contours[k] b.Plans.length l4 (l6 _ (List.getElem_mem hk))
    rw [drop_all _ hk]
    simp only [diffIdx] at ih ⊢
    simp only [Int.natCast_add, Int.cast_ofNat_Int] at ih
    generalize hd : (varsOk (b.Plans.length) [] b.Contours[k] && decide (0 < b.Contours[k].length)) = d at c1 ⊢
    rw [if_pos (by omega)]
    refine ⟨by omega, _, List.getElem?_eq_getElem hk, d, c1, ?_⟩
    cases d
    · simp
    · rw [if_pos rfl, show w ((k : Int) + 1) = (k : Int) + 1 from h4, ih]
      simp
theorem l_impl_B1 (b : Bouquet) (hr : inR b.Ratio 2 8 = true) (hl : LeB b) (c : Bool) (hc : L_impl_IsValidBouquet_2 b b.Contours b.Contours.length 0 = some (Bo c, [])) : ∀ k, k ≤ b.Budgets.length → (∀ p, prevAt b.Budgets k = some p → inR p 1 500000000000 = true) →
    L_impl_IsValidBouquet_1 b b.Budgets b.Budgets.length k = some (Bo (budOk b.Ratio (prevAt b.Budgets k) (b.Budgets.drop k) && c), []) := by
  obtain ⟨l1, l2, l3, l4, l5, l6⟩ := hl
  refine down _ ?_ ?_
  · intro _
    refine SL_impl_IsValidBouquet_1 _ _ _ _ _ ?_
    rw [if_neg (by omega), hc]
    simp [budOk]
  · intro k hk ih hp
    refine SL_impl_IsValidBouquet_1 _ _ _ _ _ ?_
    have h4 := inc64 (i := k) (by omega)
    rw [budOk_drop _ _ hk]
    rcases tf (inR b.Budgets[k] 1 500000000000) with e1 | e1
    · simp [hk, e1]
    have pk : prevAt b.Budgets (k + 1) = some b.Budgets[k] := by simp [prevAt, List.getElem?_eq_getElem hk]
    rw [pk] at ih
    have ih := ih (fun p h => by cases h; exact e1)
    simp only [Int.natCast_add, Int.cast_ofNat_Int] at ih
    cases k with
    | zero =>
      simp at ih
      simp [hk, e1, prevAt, prevOk, ih, show w 1 = 1 by decide]
    | succ j =>
      have hj : j < b.Budgets.length := by omega
      have hpj : prevAt b.Budgets (j + 1) = some b.Budgets[j] := by simp [prevAt, List.getElem?_eq_getElem hj]
      have hb := hp _ hpj
      rw [hpj]
      simp only [prevOk]
      simp [inR] at hb hr
      have m1 : b.Ratio * b.Budgets[j] ≤ 8 * 500000000000 := Int.mul_le_mul hr.2 hb.2 (by omega) (by omega)
      have m2 : 0 ≤ b.Ratio * b.Budgets[j] := Int.mul_nonneg (by omega) (by omega)
      have w1 : w (b.Ratio * b.Budgets[j]) = b.Ratio * b.Budgets[j] := wrap64 (by omega) (by omega)
      have w2 : w (((j + 1 : Nat) : Int) - 1) = j := by rw [show ((j + 1 : Nat) : Int) - 1 = j by omega]; exact wrap64 (by omega) (by omega)
      rw [if_pos (by omega)]
      refine ⟨by omega, b.Budgets[j + 1], by rw [Int.toNat_natCast]; exact List.getElem?_eq_getElem hk, true, by rw [x_within, e1], ?_⟩
      rw [if_pos rfl, if_pos (by omega), w2]
      refine ⟨by omega, b.Budgets[j], by rw [Int.toNat_natCast]; exact List.getElem?_eq_getElem hj, ?_⟩
      rw [w1, Int.mul_comm]
      by_cases e2 : b.Budgets[j + 1] = b.Budgets[j] * b.Ratio
      · rw [if_pos e2, show w (((j + 1 : Nat) : Int) + 1) = ((j + 1 : Nat) : Int) + 1 from h4, ih, e1, decide_eq_true e2, Bool.true_and, Bool.true_and]
      · rw [if_neg e2]
        simp [e2]
theorem l_impl_B0 (q : Query) (b : Bouquet) (hq : LeQ q) (hl : LeB b) (c : Bool) (hc : L_impl_IsValidBouquet_1 b b.Budgets b.Budgets.length 0 = some (Bo c, [])) : ∀ k, k ≤ b.Plans.length →
    L_impl_IsValidBouquet_0 q b b.Plans b.Plans.length k = some (Bo ((b.Plans.drop k).all (planOk q.VariableCount q.Atoms) && c), []) := by
  obtain ⟨l1, l2, l3, l4, l5, l6⟩ := hl
  refine down _ ?_ ?_
  · refine SL_impl_IsValidBouquet_0 _ _ _ _ _ _ ?_
    rw [if_neg (by omega), hc]
    simp
  · intro k hk ih
    refine SL_impl_IsValidBouquet_0 _ _ _ _ _ _ ?_
    have h4 := inc64 (i := k) (by omega)
    have q1 := x_impl_PlanMask q b.Plans[k] hq
    have q2 := x_impl_FullMask q hq
    rw [drop_all _ hk]
    simp at ih
    by_cases e : planMask q.VariableCount q.Atoms b.Plans[k].Steps = fullM q.VariableCount q.Atoms
    · simp [hk, h4, q1, q2, e, ih, planOk]
    · simp [hk, h4, q1, q2, e, planOk]
@[simp] theorem x_impl_IsValidBouquet (q : Query) (b : Bouquet) (hq : LeQ q) (hl : LeB b) : X_impl_IsValidBouquet q b = some (Bo (validB q.VariableCount q.Atoms b), []) := by
  refine S_impl_IsValidBouquet _ _ _ ?_
  have q1 := x_impl_IsValidQuery q hq
  have q2 := x_impl_FullMask q hq
  have q3 := x_impl_BoxVolume b.Box ⟨hl.1, hl.2.1⟩
  have q4 := fullM_inc q.VariableCount q.Atoms
  unfold validB headB
  rcases tf (validQ q.VariableCount q.Atoms) with e1 | e1
  · simp [q1, e1]
  rcases tf (inR b.Version 1 999) with e2 | e2
  · simp [q1, e1, e2]
  rcases tf (inR b.Ratio 2 8) with e3 | e3
  · simp [q1, e1, e2, e3]
  rcases tf (inR b.Slack 0 100) with e4 | e4
  · simp [q1, e1, e2, e3, e4]
  rcases tf (inR (boxVol b.Box.Low b.Box.High) 1 400) with e5 | e5
  · simp [q1, q3, e1, e2, e3, e4, e5]
  by_cases e6 : (b.Box.Low.length : Int) = fullM q.VariableCount q.Atoms + 1
  · have r2 := l_impl_B2 b hl 0 (Nat.zero_le _)
    have r1 := l_impl_B1 b e3 hl _ r2 0 (Nat.zero_le _) (fun p h => by simp [prevAt] at h)
    have r0 := l_impl_B0 q b hq hl _ r1 0 (Nat.zero_le _)
    simp only [List.drop_zero, prevAt, Int.ofNat_zero] at r0
    have r0 : L_impl_IsValidBouquet_0 q b b.Plans b.Plans.length 0 = _ := r0
    simp only [q1, q2, q3, e1, e2, e3, e4, e5, x_within, Option.some.injEq, Prod.mk.injEq, AV.t.injEq, T.bool.injEq, T.int.injEq, true_and, and_true, exists_eq_left', if_true]
    rw [show w (fullM q.VariableCount q.Atoms + 1) = fullM q.VariableCount q.Atoms + 1 from q4, if_pos e6, r0]
    simp [e6, Bool.and_assoc]
  · simp [q1, q2, q3, q4, e1, e2, e3, e4, e5, e6]
end Go.Proofs.Ytiniphmomjnocaa
