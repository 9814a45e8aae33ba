/-
  Contracts: the reference's steps; infos of plans.
-/
import Derived.Test.YtiniphmomjnocaaV4
namespace Go.Proofs.Ytiniphmomjnocaa
open Go.AM
set_option linter.unusedSimpArgs false
set_option linter.unusedVariables false
set_option maxHeartbeats 1000000

@[simp] theorem x_l23In (b v : Int) : X_spec_l23In b v = some (Bo (inR v 0 3 && decide (andI (shrI b v) 1 = 1)), []) := by
  refine S_spec_l23In _ _ _ ?_
  rcases tf (inR v 0 3) with e | e
  · simp [e]
  · have e0 := e
    simp [inR] at e0
    have : ¬ v < 0 := by omega
    simp [e, this]

def siRes (x : PlanStep) : Option StepInfo → AV × List Blk
  | some y => (.tup [.agg (y.c.map .t), I (popsI x)], [])
  | none => (.tup [.agg [I 0, I 0, I 0, I 0], I (-1)], [])
theorem x_l23Step (q : Query) (hq : LeQ q) (h : validQ q.VariableCount q.Atoms = true) (x : PlanStep) (info : List StepInfo) (st : List Int) (hs : StOk info st) (hil : info.length ≤ 100) (hst : st.length ≤ 100) :
    X_spec_l23Step q x info st = some (siRes x (stepI q.Atoms x info st)) := by
  have hl := valid_len h
  have wl : w ((q.Atoms.length : Int) - 1) = (q.Atoms.length : Int) - 1 := wrap64 (by omega) (by omega)
  unfold stepI
  by_cases k1 : x.Kind = 1
  · rw [if_pos k1]
    by_cases c1 : inR x.Atom 0 (q.Atoms.length - 1) = true ∧ x.Order = 0
    · rw [if_pos c1]
      have c2 := c1.1
      simp [inR] at c2
      have hlt : x.Atom.toNat < q.Atoms.length := by omega
      have hv := valid_vars h _ (List.getElem_mem hlt)
      have h0 : ¬ x.Atom < 0 := by omega
      refine S_spec_l23Step _ _ _ _ _ ?_
      have e : q.Atoms[x.Atom.toNat].Vars.headD 0 = q.Atoms[x.Atom.toNat].Vars[0]'(by omega) := by
        rw [List.headD_eq_head?_getD, hd0 (by omega)]
      rw [List.headD_eq_head?_getD] at e
      simp [k1, wl, c1, h0, hlt, c2, e, siRes, popsI, show 0 < q.Atoms[x.Atom.toNat].Vars.length by omega]
    · rw [if_neg c1]
      refine S_spec_l23Step _ _ _ _ _ ?_
      rcases tf (inR x.Atom 0 (q.Atoms.length - 1)) with e | e
      · simp [k1, wl, e, siRes]
      · have e2 : ¬ x.Order = 0 := fun hc => c1 ⟨e, hc⟩
        simp [k1, wl, e, e2, siRes]
  rw [if_neg k1]
  have w1 : w ((st.length : Int) - 1) = (st.length : Int) - 1 := wrap64 (by omega) (by omega)
  have w2 : w ((st.length : Int) - 2) = (st.length : Int) - 2 := wrap64 (by omega) (by omega)
  by_cases k0 : x.Atom = 0
  rotate_left
  · rw [if_pos k0]
    refine S_spec_l23Step _ _ _ _ _ ?_
    have j : ∀ b, J_spec_l23Step_2 q x ⟨0, 0, 0, 0⟩ info st st.length x.Kind b = some (siRes x none) := by
      intro b
      refine SJ_spec_l23Step_2 _ _ _ _ _ _ _ _ _ ?_
      cases b <;> simp [k0, siRes]
    by_cases k2 : x.Kind = 2
    · simp [k1, k2, k0, siRes]
    · by_cases k3 : x.Kind = 3 <;> by_cases k4 : x.Kind = 4 <;> simp [k1, k2, k0, k3, k4, j] <;> first | (simp only [k3] at j; simp [j, siRes]) | (simp only [k4] at j; simp [j, siRes]) | simp [siRes]
  rw [if_neg (by simpa using k0)]
  by_cases k2 : x.Kind = 2
  · rw [if_pos k2]
    refine S_spec_l23Step _ _ _ _ _ ?_
    by_cases n1 : st.length < 1
    · have : topAt st info 1 = none := by unfold topAt; rw [if_neg (by omega)]
      rw [this]
      have n1' : (st.length : Int) < 1 := by omega
      simp [k1, k2, k0, n1', siRes]
    · have n1' : ¬ (st.length : Int) < 1 := by omega
      obtain ⟨s, y, t1, t2, t3, t4⟩ := topAt_ok hs (by omega : 1 ≤ 1) (by omega : 1 ≤ st.length)
      have z1 : (0 : Int) ≤ (st.length : Int) - 1 := by omega
      have z5 : (1 : Int) ≤ (st.length : Int) := by omega
      have z2 : ((st.length : Int) - 1).toNat = st.length - 1 := by omega
      have q1 := x_l7Bits q y.Mask hq (valid4 h)
      have q2 : (inR x.Order 0 3 && decide (andI (shrI (bits4 (pV y.Mask q.Atoms)) x.Order) 1 = 1)) = vin q.Atoms y.Mask x.Order := by
        unfold vin
        rcases tf (inR x.Order 0 3) with e | e
        · simp [e]
        · rw [e, Bool.true_and, Bool.true_and, Bool.eq_iff_iff, decide_eq_true_eq]
          exact at_bit _ e
      rw [t1]
      simp only
      by_cases e2 : y.Order = x.Order
      · simp [k1, k2, k0, n1', w1, z1, z2, z5, t2, t3, t4, e2, siRes]
      · rcases tf (vin q.Atoms y.Mask x.Order) with e | e
        · simp only [k1, k2, k0, n1', w1, z1, z2, t2, t3, t4, q1, x_l23In, q2, e, e2, if_false, if_true, true_and, Option.some.injEq, exists_eq_left', Prod.mk.injEq, AV.t.injEq, T.int.injEq, T.bool.injEq, and_true]
          simp [siRes]
        · simp only [k1, k2, k0, n1', w1, z1, z2, t2, t3, t4, q1, x_l23In, q2, e, e2, if_false, if_true, true_and, Option.some.injEq, exists_eq_left', Prod.mk.injEq, AV.t.injEq, T.int.injEq, T.bool.injEq, and_true]
          simp [siRes, popsI, k1, k2, e2]
  rw [if_neg k2]
  -- a join
  have q0 : ∀ (b : StepInfo) (c : StepInfo) (y : StepInfo) (f : Bool), x.Kind = 4 → ∀ m1 m2, J_spec_l23Step_1a q x ⟨0, 0, 0, 0⟩ b c y (andI (bits4 (pV m1 q.Atoms)) (bits4 (pV m2 q.Atoms))) f =
      if vin q.Atoms m1 x.Order = true ∧ vin q.Atoms m2 x.Order = true ∧ b.Order = x.Order ∧ c.Order = x.Order then some (.tup [.agg [I y.Mask, I x.Order, I y.Left, I y.Right], I 2], []) else some (siRes x none) := by
    intro b c y f k4 m1 m2
    have e : (inR x.Order 0 3 && decide (andI (shrI (andI (bits4 (pV m1 q.Atoms)) (bits4 (pV m2 q.Atoms))) x.Order) 1 = 1)) = (vin q.Atoms m1 x.Order && vin q.Atoms m2 x.Order) := by
      unfold vin
      rcases tf (inR x.Order 0 3) with e | e
      · simp [e]
      · rw [e, Bool.true_and, Bool.true_and, Bool.true_and, Bool.eq_iff_iff, decide_eq_true_eq, and_bits]
        simpa using at_bit (fun u => pV m1 q.Atoms u && pV m2 q.Atoms u) e
    split
    · rename_i hc
      refine SJ_spec_l23Step_1a _ _ _ _ _ _ _ _ _ ?_
      simp only [x_l23In, e, hc]
      simp [k4]
    · rename_i hc
      refine SJ_spec_l23Step_1a _ _ _ _ _ _ _ _ _ ?_
      simp only [x_l23In, e]
      rcases tf (vin q.Atoms m1 x.Order) with e1 | e1 <;> rcases tf (vin q.Atoms m2 x.Order) with e2 | e2 <;> by_cases e3 : b.Order = x.Order <;> by_cases e4 : c.Order = x.Order <;> simp [k4, e1, e2, e3, e4, siRes]
      exact hc ⟨e1, e2, e3, e4⟩
  have q3 : ∀ (b : StepInfo) (c : StepInfo) (y : StepInfo) (v : Int) (f : Bool), x.Kind ≠ 4 → J_spec_l23Step_1a q x ⟨0, 0, 0, 0⟩ b c y v f = some (.tup [.agg (y.c.map .t), I 2], []) := by
    intro b c y v f k4
    exact SJ_spec_l23Step_1a _ _ _ _ _ _ _ _ _ (by simp [k4])
  have q5 : ∀ (b : StepInfo) (c : StepInfo) (y : StepInfo) (v : Int), x.Kind ≠ 4 → J_spec_l23Step_1 q x ⟨0, 0, 0, 0⟩ b c y v = some (.tup [.agg (y.c.map .t), I 2], []) := by
    intro b c y v k4
    exact SJ_spec_l23Step_1 _ _ _ _ _ _ _ _ (by simp [k4])
  by_cases kk : x.Kind = 3 ∨ x.Kind = 4 ∨ x.Kind = 5
  rotate_left
  · have k3 : ¬ x.Kind = 3 := fun hc => kk (.inl hc)
    have k4 : ¬ x.Kind = 4 := fun hc => kk (.inr (.inl hc))
    have k5 : ¬ x.Kind = 5 := fun hc => kk (.inr (.inr hc))
    have hj : ∀ y z, joinO q.Atoms x y z = none := by intro y z; simp [joinO, k3, k4, k5]
    refine Eq.trans (b := some (siRes x none)) (S_spec_l23Step _ _ _ _ _ (by simp [k1, k2, k3, k4, k5, siRes])) ?_
    simp only [hj, Option.map_none, ite_self]
    split <;> rfl
  have k5' : x.Kind ≠ 3 → x.Kind ≠ 4 → x.Kind = 5 := fun a b => by rcases kk with h | h | h; exact absurd h a; exact absurd h b; exact h
  have red : ∀ r, J_spec_l23Step_2 q x ⟨0, 0, 0, 0⟩ info st st.length x.Kind true = some r → (x.Kind = 5 → X_spec_l23Step q x info st = some r) → X_spec_l23Step q x info st = some r := by
    intro r hr h5
    by_cases k5 : x.Kind = 5
    · exact h5 k5
    · refine S_spec_l23Step _ _ _ _ _ ?_
      by_cases k3 : x.Kind = 3
      · rw [if_neg k1, if_neg k2, if_pos k3]; exact hr
      · by_cases k4 : x.Kind = 4
        · rw [if_neg k1, if_neg k2, if_neg k3, if_pos k4]; exact hr
        · exact absurd (k5' k3 k4) k5
  by_cases n2 : st.length < 2
  · have : topAt st info 2 = none := by unfold topAt; rw [if_neg (by omega)]
    rw [this]
    have n2' : (st.length : Int) < 2 := by omega
    refine red _ ?_ ?_
    · exact SJ_spec_l23Step_2 _ _ _ _ _ _ _ _ _ (by simp [k0, n2', siRes])
    · intro k5
      exact S_spec_l23Step _ _ _ _ _ (by simp [k5, k0, n2', siRes])
  have n2' : ¬ (st.length : Int) < 2 := by omega
  obtain ⟨s, y, t1, t2, t3, t4⟩ := topAt_ok hs (by omega : 1 ≤ 2) (by omega : 2 ≤ st.length)
  obtain ⟨t, z, u1, u2, u3, u4⟩ := topAt_ok hs (by omega : 1 ≤ 1) (by omega : 1 ≤ st.length)
  have z1 : (0 : Int) ≤ (st.length : Int) - 1 := by omega
  have z2 : ((st.length : Int) - 1).toNat = st.length - 1 := by omega
  have z3 : (0 : Int) ≤ (st.length : Int) - 2 := by omega
  have z4 : ((st.length : Int) - 2).toNat = st.length - 2 := by omega
  have b1 := x_l7Bits q y.Mask hq (valid4 h)
  have b2 := x_l7Bits q z.Mask hq (valid4 h)
  have b3 := shr_bits q.Atoms y.Mask z.Mask
  rw [t1, u1]
  simp only
  by_cases c1 : andI y.Mask z.Mask = 0
  rotate_left
  · rw [if_neg (fun hc => c1 hc.1)]
    refine red _ ?_ ?_
    · refine SJ_spec_l23Step_2 _ _ _ _ _ _ _ _ _ ?_
      simp only [k0, n2', w1, w2, z1, z2, z3, z4, t2, t3, t4, u2, u3, u4, b1, b2, c1, if_true, if_false, true_and, Option.some.injEq, exists_eq_left', Prod.mk.injEq, AV.t.injEq, T.int.injEq, and_true]
      simp [siRes]
    · intro k5
      refine S_spec_l23Step _ _ _ _ _ ?_
      simp only [k5, k0, n2', w1, w2, z1, z2, z3, z4, t2, t3, t4, u2, u3, u4, b1, b2, c1, if_true, if_false, true_and, Option.some.injEq, exists_eq_left', Prod.mk.injEq, AV.t.injEq, T.int.injEq, and_true]
      simp [siRes]
  rcases tf (shr q.Atoms y.Mask z.Mask) with c2 | c2
  · rw [if_neg (fun hc => by rw [hc.2] at c2; cases c2)]
    have c3 := b3.2 c2
    refine red _ ?_ ?_
    · refine SJ_spec_l23Step_2 _ _ _ _ _ _ _ _ _ ?_
      simp only [k0, n2', w1, w2, z1, z2, z3, z4, t2, t3, t4, u2, u3, u4, b1, b2, c1, c3, if_true, if_false, true_and, Option.some.injEq, exists_eq_left', Prod.mk.injEq, AV.t.injEq, T.int.injEq, and_true]
      simp [siRes]
    · intro k5
      refine S_spec_l23Step _ _ _ _ _ ?_
      simp only [k5, k0, n2', w1, w2, z1, z2, z3, z4, t2, t3, t4, u2, u3, u4, b1, b2, c1, c3, if_true, if_false, true_and, Option.some.injEq, exists_eq_left', Prod.mk.injEq, AV.t.injEq, T.int.injEq, and_true]
      simp [siRes]
  rw [if_pos ⟨c1, c2⟩]
  have c3 : ¬ andI (bits4 (pV y.Mask q.Atoms)) (bits4 (pV z.Mask q.Atoms)) = 0 := fun hc => by rw [b3.1 hc] at c2; cases c2
  have p2 : popsI x = 2 := by unfold popsI; rw [if_neg k1, if_neg k2]
  refine red _ ?_ ?_
  · refine SJ_spec_l23Step_2 _ _ _ _ _ _ _ _ _ ?_
    simp only [k0, n2', w1, w2, z1, z2, z3, z4, t2, t3, t4, u2, u3, u4, b1, b2, c1, c3, if_true, if_false, true_and, Option.some.injEq, exists_eq_left', Prod.mk.injEq, AV.t.injEq, T.int.injEq, and_true]
    by_cases k4 : x.Kind = 4
    · have k3 : ¬ x.Kind = 3 := by omega
      have k5 : ¬ x.Kind = 5 := by omega
      rw [if_pos k4, q0 _ _ _ _ k4]
      simp only [joinO, k3, k4, k5, false_and, true_and, if_false]
      split
      · rename_i hc; simp [siRes, p2]
      · rfl
    · by_cases e : x.Order = 0
      · by_cases k5 : x.Kind = 5
        · rw [if_neg k4, if_pos e, if_pos k5, q5 _ _ _ _ k4]
          simp [joinO, k5, e, siRes, p2]
        · have k3 : x.Kind = 3 := by omega
          rw [if_neg k4, if_pos e, if_neg k5, q3 _ _ _ _ _ k4]
          simp [joinO, k3, e, siRes, p2]
      · rw [if_neg k4, if_neg e]
        simp [joinO, k4, e, siRes]
  · intro k5
    refine S_spec_l23Step _ _ _ _ _ ?_
    have k4 : x.Kind ≠ 4 := by omega
    simp only [k5, k0, n2', w1, w2, z1, z2, z3, z4, t2, t3, t4, u2, u3, u4, b1, b2, c1, c3, if_true, if_false, true_and, Option.some.injEq, exists_eq_left', Prod.mk.injEq, AV.t.injEq, T.int.injEq, and_true]
    by_cases e : x.Order = 0
    · simp [e, q5 _ _ _ _ k4, joinO, k5, siRes, p2]
    · simp [e, joinO, k5, siRes]

theorem l_spec_PlanInfo (q : Query) (hq : LeQ q) (h : validQ q.VariableCount q.Atoms = true) (p : Plan) (hl : p.Steps.length ≤ 14) : ∀ i, i ≤ p.Steps.length → ∀ info st, StOk info st → info.length = i → st.length ≤ i →
    L_spec_PlanInfo_0 q p info st i = some (match planGo q.Atoms (p.Steps.drop i) i info st with
      | some (info', st') => if st'.length = 1 then (.tup [.own 0, Bo true], [.arr t_impl_StepInfo 4 true (info'.map StepInfo.c)]) else (.tup [.own 0, Bo false], [.arr t_impl_StepInfo 4 true []])
      | none => (.tup [.own 0, Bo false], [.arr t_impl_StepInfo 4 true []])) := by
  refine down _ ?_ ?_
  · intro info st _ _ _
    rw [List.drop_length, planGo]
    refine SL_spec_PlanInfo_0 _ _ _ _ _ _ ?_
    by_cases c : st.length = 1
    · simp [c]
    · have c' : ¬ (st.length : Int) = 1 := by omega
      simp [c, c']
  · intro i hi ih info st hs hil hst
    have h5 := inc64 (i := i) (by omega)
    have s1 := x_l23Step q hq h p.Steps[i] info st hs (by omega) (by omega)
    rw [planGo_drop q.Atoms hi]
    refine SL_spec_PlanInfo_0 _ _ _ _ _ _ ?_
    cases he : stepI q.Atoms p.Steps[i] info st with
    | none =>
      rw [he, siRes] at s1
      have e0 : X_spec_l23Step q p.Steps[i] info st = some (.tup [.agg ((⟨0, 0, 0, 0⟩ : StepInfo).c.map .t), I (-1)], []) := s1
      rw [if_pos (by omega)]
      refine ⟨by omega, _, List.getElem?_eq_getElem hi, _, _, e0, ?_⟩
      simp
    | some y =>
      rw [he, siRes] at s1
      obtain ⟨f1, f2, f3⟩ := step_facts hs he
      rw [f1] at s1
      have hn := st_next hs y (st.length - pops y)
      rw [hil] at hn
      have ih := ih (info ++ [y]) (st.take (st.length - pops y) ++ [(i : Int)]) hn (by simp [hil]) (st_len hst _)
      have w2 : w ((st.length : Int) - (pops y : Int)) = (st.length : Int) - (pops y : Int) := wrap64 (by omega) (by omega)
      have z2 : ((st.length : Int) - (pops y : Int)).toNat = st.length - pops y := by omega
      rw [if_pos (by omega)]
      refine ⟨by omega, _, List.getElem?_eq_getElem hi, _, _, s1, ?_⟩
      rw [if_neg (by omega), w2, z2]
      refine ⟨by omega, by omega, by omega, by omega, by omega, ?_⟩
      rw [show w ((i : Int) + 1) = (i : Int) + 1 from h5]
      simpa using ih
@[simp] theorem x_spec_PlanInfo (q : Query) (p : Plan) (hq : LeQ q) : X_spec_PlanInfo q p = some (match planInfo q.VariableCount q.Atoms p.Steps with
    | some info => (.tup [.own 0, Bo true], [.arr t_impl_StepInfo 4 true (info.map StepInfo.c)])
    | none => (.tup [.own 0, Bo false], [.arr t_impl_StepInfo 4 true []])) := by
  refine S_spec_PlanInfo _ _ _ ?_
  have q1 := x_spec_IsValidQuery q hq
  unfold planInfo
  rcases tf (validQ q.VariableCount q.Atoms) with e | e
  · simp [q1, e]
  rcases tf (inR p.Steps.length 1 14) with e2 | e2
  · simp [q1, e, e2]
  · have e3 := e2
    simp [inR] at e3
    have b := l_spec_PlanInfo q hq e p (by omega) 0 (Nat.zero_le _) [] [] (fun s hs => by cases hs) rfl (Nat.le_refl _)
    simp only [List.drop_zero] at b
    simp only [q1, e, e2, x_l1In, Option.some.injEq, Prod.mk.injEq, AV.t.injEq, T.bool.injEq, and_true, exists_eq_left', if_true, and_self]
    refine Eq.trans b ?_
    cases planGo q.Atoms p.Steps 0 [] [] with
    | none => rfl
    | some r => obtain ⟨a, b⟩ := r; simp only; split <;> rfl
end Go.Proofs.Ytiniphmomjnocaa
