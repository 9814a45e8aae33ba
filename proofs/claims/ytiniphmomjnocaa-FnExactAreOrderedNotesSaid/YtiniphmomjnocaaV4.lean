/-
  Contracts: steps and plans.
-/
import Derived.Test.YtiniphmomjnocaaV3
namespace Go.Proofs.Ytiniphmomjnocaa
open Go.AM
set_option linter.unusedSimpArgs false
set_option linter.unusedVariables false
set_option maxHeartbeats 1000000

/-- the info that a step without success returns is of no interest -/
theorem x_stepInfo (q : Query) (hq : LeQ q) (h : validQ q.VariableCount q.Atoms = true) (x : PlanStep) (info : List StepInfo) (st : List Int) (hs : StOk info st) (hil : info.length ≤ 100) (hst : st.length ≤ 100) :
    match stepI q.Atoms x info st with
    | some y => X_impl_stepInfo q x info st = some (.tup [.agg (y.c.map .t), Bo true], [])
    | none => ∃ y : StepInfo, X_impl_stepInfo q x info st = some (.tup [.agg (y.c.map .t), Bo false], []) := by
  have hl := valid_len h
  have wl : w ((q.Atoms.length : Int) - 1) = (q.Atoms.length : Int) - 1 := wrap64 (by omega) (by omega)
  unfold stepI
  by_cases k1 : x.Kind = 1
  · rw [if_pos k1]
    by_cases c1 : inR x.Atom 0 (q.Atoms.length - 1) = true ∧ x.Order = 0
    · rw [if_pos c1]
      have c2 := c1.1
      simp [inR] at c2
      have hlt : x.Atom.toNat < q.Atoms.length := by omega
      have hv := valid_vars h _ (List.getElem_mem hlt)
      have h0 : ¬ x.Atom < 0 := by omega
      simp only
      refine S_impl_stepInfo _ _ _ _ _ ?_
      have e : q.Atoms[x.Atom.toNat].Vars.headD 0 = q.Atoms[x.Atom.toNat].Vars[0]'(by omega) := by
        rw [List.headD_eq_head?_getD, hd0 (by omega)]
      rw [List.headD_eq_head?_getD] at e
      simp [k1, wl, c1, h0, hlt, c2, e, show 0 < q.Atoms[x.Atom.toNat].Vars.length by omega]
    · rw [if_neg c1]
      refine ⟨⟨0, -1, -1, -1⟩, S_impl_stepInfo _ _ _ _ _ ?_⟩
      rcases tf (inR x.Atom 0 (q.Atoms.length - 1)) with e | e
      · simp [k1, wl, e]
      · have e2 : ¬ x.Order = 0 := fun hc => c1 ⟨e, hc⟩
        simp [k1, wl, e, e2]
  rw [if_neg k1]
  by_cases k0 : x.Atom = 0
  rotate_left
  · rw [if_pos k0]
    exact ⟨⟨0, -1, -1, -1⟩, S_impl_stepInfo _ _ _ _ _ (by simp [k1, k0])⟩
  rw [if_neg (by simpa using k0)]
  have w1 : w ((st.length : Int) - 1) = (st.length : Int) - 1 := wrap64 (by omega) (by omega)
  have w2 : w ((st.length : Int) - 2) = (st.length : Int) - 2 := wrap64 (by omega) (by omega)
  by_cases k2 : x.Kind = 2
  · rw [if_pos k2]
    by_cases n1 : st.length < 1
    · have : topAt st info 1 = none := by unfold topAt; rw [if_neg (by omega)]
      rw [this]
      have n1' : (st.length : Int) < 1 := by omega
      exact ⟨⟨0, -1, -1, -1⟩, S_impl_stepInfo _ _ _ _ _ (by simp [k1, k2, k0, n1'])⟩
    · have n1' : ¬ (st.length : Int) < 1 := by omega
      obtain ⟨s, y, t1, t2, t3, t4⟩ := topAt_ok hs (by omega : 1 ≤ 1) (by omega : 1 ≤ st.length)
      have z1 : (0 : Int) ≤ (st.length : Int) - 1 := by omega
      have z5 : (1 : Int) ≤ (st.length : Int) := by omega
      have z2 : ((st.length : Int) - 1).toNat = st.length - 1 := by omega
      have q1 := x_variables q y.Mask hq h
      have q2 := xContainsI (varL y.Mask q.Atoms q.VariableCount.toNat) x.Order (by have := varL_len y.Mask q.Atoms q.VariableCount.toNat; have := valid_n h; omega)
      rw [has_varL h] at q2
      rw [t1]
      simp only
      by_cases c1 : vin q.Atoms y.Mask x.Order = true ∧ y.Order ≠ x.Order
      · rw [if_pos c1]
        refine S_impl_stepInfo _ _ _ _ _ ?_
        simp [k1, k2, k0, n1', w1, z1, z2, z5, t2, t3, t4, q1, q2, c1]
      · rw [if_neg c1]
        refine ⟨⟨0, -1, -1, -1⟩, S_impl_stepInfo _ _ _ _ _ ?_⟩
        rcases tf (vin q.Atoms y.Mask x.Order) with e | e
        · simp [k1, k2, k0, n1', w1, z1, z2, z5, t2, t3, t4, q1, q2, e]
        · have e2 : y.Order = x.Order := Decidable.byContradiction fun hc => c1 ⟨e, hc⟩
          simp [k1, k2, k0, n1', w1, z1, z2, z5, t2, t3, t4, q1, q2, e, e2]
  rw [if_neg k2]
  by_cases n2 : st.length < 2
  · have : topAt st info 2 = none := by unfold topAt; rw [if_neg (by omega)]
    rw [this]
    have n2' : (st.length : Int) < 2 := by omega
    exact ⟨⟨0, -1, -1, -1⟩, S_impl_stepInfo _ _ _ _ _ (by simp [k1, k2, k0, n2'])⟩
  have n2' : ¬ (st.length : Int) < 2 := by omega
  obtain ⟨s, y, t1, t2, t3, t4⟩ := topAt_ok hs (by omega : 1 ≤ 2) (by omega : 2 ≤ st.length)
  obtain ⟨t, z, u1, u2, u3, u4⟩ := topAt_ok hs (by omega : 1 ≤ 1) (by omega : 1 ≤ st.length)
  have z1 : (0 : Int) ≤ (st.length : Int) - 1 := by omega
  have z2 : ((st.length : Int) - 1).toNat = st.length - 1 := by omega
  have z3 : (0 : Int) ≤ (st.length : Int) - 2 := by omega
  have z4 : ((st.length : Int) - 2).toNat = st.length - 2 := by omega
  have hn := valid_n h
  have q1 := x_variables q y.Mask hq h
  have q2 := x_variables q z.Mask hq h
  have l1 := varL_len y.Mask q.Atoms q.VariableCount.toNat
  have l2 := varL_len z.Mask q.Atoms q.VariableCount.toNat
  have q3 := x_both (varL y.Mask q.Atoms q.VariableCount.toNat) (varL z.Mask q.Atoms q.VariableCount.toNat) (by omega) (by omega)
  have q4 := xContainsI ((varL y.Mask q.Atoms q.VariableCount.toNat).filter (has (varL z.Mask q.Atoms q.VariableCount.toNat))) x.Order (by
    have := List.length_filter_le (has (varL z.Mask q.Atoms q.VariableCount.toNat)) (varL y.Mask q.Atoms q.VariableCount.toNat); omega)
  rw [has_shared h] at q4
  have q5 := shared_len h y.Mask z.Mask
  generalize hS : (varL y.Mask q.Atoms q.VariableCount.toNat).filter (has (varL z.Mask q.Atoms q.VariableCount.toNat)) = S at q3 q4 q5
  rw [t1, u1]
  simp only
  have base : ∀ (r : AV × List Blk), (if andI y.Mask z.Mask = 0 then
        if ((S.length : Int) = 0) then some (.tup [.agg [I (orI y.Mask z.Mask), I (-1), I s, I t], Bo false], []) = some r
        else if x.Kind = 3 then some (.tup [.agg [I (orI y.Mask z.Mask), I (-1), I s, I t], Bo (decide (x.Order = 0))], []) = some r
        else if x.Kind = 5 then some (.tup [.agg [I (orI y.Mask z.Mask), I y.Order, I s, I t], Bo (decide (x.Order = 0))], []) = some r
        else if x.Kind = 4 then
          if (vin q.Atoms y.Mask x.Order && vin q.Atoms z.Mask x.Order) = true then
            if y.Order = x.Order then some (.tup [.agg [I (orI y.Mask z.Mask), I x.Order, I s, I t], Bo (decide (z.Order = x.Order))], []) = some r
            else some (.tup [.agg [I (orI y.Mask z.Mask), I x.Order, I s, I t], Bo false], []) = some r
          else some (.tup [.agg [I (orI y.Mask z.Mask), I x.Order, I s, I t], Bo false], []) = some r
        else some (.tup [.agg [I (orI y.Mask z.Mask), I (-1), I s, I t], Bo false], []) = some r
      else some (.tup [.agg [I (orI y.Mask z.Mask), I (-1), I s, I t], Bo false], []) = some r) → X_impl_stepInfo q x info st = some r := by
    intro r hr
    refine S_impl_stepInfo _ _ _ _ _ ?_
    simp only [k1, k0, k2, if_false, if_true, n2', w1, w2, z1, z2, z3, z4, t2, t3, t4, u2, u3, u4, q1, q2, true_and, Option.some.injEq, exists_eq_left']
    refine ⟨_, rfl, _, rfl, S, ?_, ?_⟩
    · simpa using q3
    · simp only [q4, Option.some.injEq, Prod.mk.injEq, AV.t.injEq, T.bool.injEq, and_true, exists_eq_left']
      simpa using hr
  by_cases c1 : andI y.Mask z.Mask = 0 ∧ shr q.Atoms y.Mask z.Mask = true
  rotate_left
  · rw [if_neg c1]
    refine ⟨⟨orI y.Mask z.Mask, -1, s, t⟩, base _ ?_⟩
    by_cases c2 : andI y.Mask z.Mask = 0
    · have c3 : S.length = 0 := q5.2 (by rcases tf (shr q.Atoms y.Mask z.Mask) with e | e; exact e; exact absurd ⟨c2, e⟩ c1)
      have c4 : (S.length : Int) = 0 := by omega
      rw [if_pos c2, if_pos c4]
      simp
    · rw [if_neg c2]
      simp
  rw [if_pos c1]
  have c4 : ¬ (S.length : Int) = 0 := fun hc => by
    have := q5.1 (by omega)
    rw [c1.2] at this
    cases this
  have c5 : ¬ S = [] := fun hc => c4 (by simp [hc])
  unfold joinO
  by_cases j1 : x.Kind = 3 ∧ x.Order = 0
  · rw [if_pos j1]
    exact base _ (by simp [c1.1, c4, c5, j1])
  rw [if_neg j1]
  by_cases j2 : x.Kind = 5 ∧ x.Order = 0
  · rw [if_pos j2]
    exact base _ (by simp [c1.1, c4, c5, j2])
  rw [if_neg j2]
  by_cases j3 : x.Kind = 4 ∧ vin q.Atoms y.Mask x.Order = true ∧ vin q.Atoms z.Mask x.Order = true ∧ y.Order = x.Order ∧ z.Order = x.Order
  · rw [if_pos j3]
    exact base _ (by simp [c1.1, c4, c5, j3])
  rw [if_neg j3]
  simp only [Option.map_none]
  by_cases k3 : x.Kind = 3
  · have e : ¬ x.Order = 0 := fun hc => j1 ⟨k3, hc⟩
    exact ⟨⟨orI y.Mask z.Mask, -1, s, t⟩, base _ (by simp [c1.1, c4, c5, k3, e])⟩
  by_cases k5 : x.Kind = 5
  · have e : ¬ x.Order = 0 := fun hc => j2 ⟨k5, hc⟩
    exact ⟨⟨orI y.Mask z.Mask, y.Order, s, t⟩, base _ (by simp [c1.1, c4, c5, k5, e])⟩
  by_cases k4 : x.Kind = 4
  · refine ⟨⟨orI y.Mask z.Mask, x.Order, s, t⟩, base _ ?_⟩
    rcases tf (vin q.Atoms y.Mask x.Order) with e1 | e1 <;> rcases tf (vin q.Atoms z.Mask x.Order) with e2 | e2 <;> by_cases e3 : y.Order = x.Order <;> simp [c1.1, c4, c5, k4, e1, e2, e3]
    exact fun e4 => j3 ⟨k4, e1, e2, e3, e4⟩
  · exact ⟨⟨orI y.Mask z.Mask, -1, s, t⟩, base _ (by simp [c1.1, c4, c5, k3, k4, k5])⟩
end Go.Proofs.Ytiniphmomjnocaa
