/-
  The info of a step: the program's stepInfo.
-/
import Derived.Test.YtiniphmomjnocaaW24
namespace Go.Proofs.Ytiniphmomjnocaa
open Go.AM
set_option linter.unusedSimpArgs false
set_option linter.unusedVariables false

set_option maxHeartbeats 4000000 in
theorem c_stepInfo (n : Int) (qa : List Atom) (h : validQ n qa = true) (x : PlanStep) (info : List SI) (st : List Int) (hs : StOk info st) (hi : Le info) (hl : Le st) :
    match stepI qa x info st with
    | some y => C f_impl_stepInfo [.agg [I n, L 2 (qa.map Atom.c)], stepA x, L 4 (info.map SI.c), .t (tI st)] [] = some (.tup [siA y, Bo true], [])
    | none => ∃ y, C f_impl_stepInfo [.agg [I n, L 2 (qa.map Atom.c)], stepA x, L 4 (info.map SI.c), .t (tI st)] [] = some (.tup [siA y, Bo false], []) := by
  have v1 := valid_len h
  have v2 := valid_vars h
  have vn := valid_n h
  have hqa : Le qa := by omega
  have hva : ∀ a ∈ qa, Le a.Vars := fun a ha => by have := v2 a ha; omega
  have q1 := fun m => c_variables n m qa vn hqa hva
  have w1 : IntKind.wrap .i64 ((qa.length : Int) - 1) = (qa.length : Int) - 1 := wrap64 (by omega) (by omega)
  have w2 : IntKind.wrap .i64 ((st.length : Int) - 1) = (st.length : Int) - 1 := wrap64 (by omega) (by omega)
  have w3 : IntKind.wrap .i64 ((st.length : Int) - 2) = (st.length : Int) - 2 := wrap64 (by omega) (by omega)
  have hvl := fun m => varL_len m qa n.toNat
  unfold stepI
  by_cases k1 : x.Kind = 1
  · rcases tf (inR x.Atom 0 ((qa.length : Int) - 1)) with e1 | e1
    · simp only [k1, e1, if_true, Bool.false_eq_true, false_and, if_false]
      refine ⟨⟨0, -1, -1, -1⟩, run t_impl_stepInfo rfl ?_⟩
      simp [M_impl_stepInfo, k1, w1, e1]
    · by_cases e2 : x.Order = 0
      · have e3 := e1
        simp [inR] at e3
        have e4 : x.Atom.toNat < qa.length := by omega
        have e5 := v2 _ (List.getElem_mem e4)
        have e6 : ¬ x.Atom < 0 := by omega
        have e7 : 0 < qa[x.Atom.toNat].Vars.length := by omega
        simp only [k1, e1, e2, if_true, and_self]
        refine run t_impl_stepInfo rfl ?_
        simp +decide [M_impl_stepInfo, k1, w1, e1, e2, e3.1, e4, e6, e7, hd0 e7]
      · simp only [k1, e1, e2, if_true, and_false, if_false]
        refine ⟨⟨0, -1, -1, -1⟩, run t_impl_stepInfo rfl ?_⟩
        simp [M_impl_stepInfo, k1, w1, e1, e2]
  by_cases a0 : ¬ x.Atom = 0
  · simp only [k1, if_false, ne_eq, a0, not_false_eq_true, if_true]
    refine ⟨⟨0, -1, -1, -1⟩, run t_impl_stepInfo rfl ?_⟩
    simp +decide [M_impl_stepInfo, k1, a0]
  have a0 : x.Atom = 0 := Decidable.not_not.1 a0
  by_cases k2 : x.Kind = 2
  · by_cases hz : 1 ≤ st.length
    · obtain ⟨s, y, t1, t2, t3, t4⟩ := topAt_ok hs (Nat.le_refl 1) hz
      have q2 := c_Contains_int (varL y.Mask qa n.toNat) x.Order (by have := hvl y.Mask; omega)
      rw [has_varL h] at q2
      have z1 : ¬ ((st.length : Int) < 1) := by omega
      have z2 : ¬ ((st.length : Int) - 1 < 0) := by omega
      have z3 : (1 : Int) ≤ (st.length : Int) := by omega
      have z4 : ((st.length : Int) - 1).toNat = st.length - 1 := by omega
      rw [t1]
      rcases tf (vin qa y.Mask x.Order) with e2 | e2
      · simp only [k1, k2, a0, e2, if_true, if_false, ne_eq, not_true, Bool.false_eq_true, false_and]
        refine ⟨⟨0, -1, -1, -1⟩, run t_impl_stepInfo rfl ?_⟩
        simp +decide [M_impl_stepInfo, k1, k2, a0, w2, z1, z2, z3, z4, t2, t3, t4, e2, q1, q2]
      · by_cases e1 : y.Order = x.Order
        · simp only [k1, k2, a0, e2, e1, if_true, if_false, ne_eq, not_true, and_false]
          refine ⟨⟨0, -1, -1, -1⟩, run t_impl_stepInfo rfl ?_⟩
          simp +decide [M_impl_stepInfo, k1, k2, a0, w2, z1, z2, z3, z4, t2, t3, t4, e2, q1, q2, e1]
        · simp only [k1, k2, a0, e2, e1, if_true, if_false, ne_eq, not_true, not_false_eq_true, and_self]
          refine run t_impl_stepInfo rfl ?_
          simp +decide [M_impl_stepInfo, k1, k2, a0, w2, z1, z2, z3, z4, t2, t3, t4, e2, q1, q2, e1]
    · have z1 : st = [] := List.eq_nil_of_length_eq_zero (by omega)
      subst z1
      simp only [k1, k2, a0, if_true, if_false, ne_eq, not_true, topAt, List.length_nil, (by omega : ¬ 1 ≤ 0)]
      refine ⟨⟨0, -1, -1, -1⟩, run t_impl_stepInfo rfl ?_⟩
      simp +decide [M_impl_stepInfo, k1, k2, a0]
  by_cases hz : 2 ≤ st.length
  · obtain ⟨s, y, t1, t2, t3, t4⟩ := topAt_ok hs (by omega : 1 ≤ 2) hz
    obtain ⟨t, z, u1, u2, u3, u4⟩ := topAt_ok hs (Nat.le_refl 1) (by omega)
    have z1 : ¬ ((st.length : Int) < 2) := by omega
    have z2 : ¬ ((st.length : Int) - 1 < 0) := by omega
    have z3 : (1 : Int) ≤ (st.length : Int) := by omega
    have z4 : ((st.length : Int) - 1).toNat = st.length - 1 := by omega
    have z5 : (2 : Int) ≤ (st.length : Int) := by omega
    have z6 : ((st.length : Int) - 2).toNat = st.length - 2 := by omega
    have z7 : ¬ ((st.length : Int) - 2 < 0) := by omega
    have q2 := c_both (varL y.Mask qa n.toNat) (varL z.Mask qa n.toNat) (by have := hvl y.Mask; omega) (by have := hvl z.Mask; omega)
    have hfl : ((varL y.Mask qa n.toNat).filter (has (varL z.Mask qa n.toNat))).length ≤ 4 := Nat.le_trans (List.length_filter_le _ _) (by have := hvl y.Mask; omega)
    have q3 := c_Contains_int ((varL y.Mask qa n.toNat).filter (has (varL z.Mask qa n.toNat))) x.Order (by omega)
    rw [has_shared h] at q3
    have q4 := shared_len h y.Mask z.Mask
    generalize ((varL y.Mask qa n.toNat).filter (has (varL z.Mask qa n.toNat))) = sh at q2 q3 q4 hfl
    rw [t1, u1]
    simp only [k1, k2, a0, if_false, ne_eq, not_true]
    by_cases m1 : andI y.Mask z.Mask = 0
    · rcases tf (shr qa y.Mask z.Mask) with m2 | m2
      · have m3 := q4.2 m2
        simp only [m1, m2, Bool.false_eq_true, and_false, if_false]
        refine ⟨⟨orI y.Mask z.Mask, -1, s, t⟩, run t_impl_stepInfo rfl ?_⟩
        simp +decide [M_impl_stepInfo, k1, k2, a0, w2, w3, z1, z2, z3, z4, z5, z6, z7, t2, t3, t4, u2, u3, u4, q1, q2, m1, m2, m3]
      · have m3 : ¬ sh.length = 0 := fun hc => by rw [q4.1 hc] at m2; cases m2
        have m4 : ¬ (sh.length : Int) = 0 := by omega
        simp only [m1, m2, and_self, if_true]
        by_cases k3 : x.Kind = 3
        · by_cases o1 : x.Order = 0
          · simp only [joinO, k3, o1, and_self, if_true, Option.map_some]
            refine run t_impl_stepInfo rfl ?_
            simp +decide [M_impl_stepInfo, k1, k2, k3, a0, w2, w3, z1, z2, z3, z4, z5, z6, z7, t2, t3, t4, u2, u3, u4, q1, q2, m1, m2, m3, m4, o1]
          · have : joinO qa x y z = none := by simp [joinO, k3, o1]
            simp only [this, Option.map_none]
            refine ⟨⟨orI y.Mask z.Mask, -1, s, t⟩, run t_impl_stepInfo rfl ?_⟩
            simp +decide [M_impl_stepInfo, k1, k2, k3, a0, w2, w3, z1, z2, z3, z4, z5, z6, z7, t2, t3, t4, u2, u3, u4, q1, q2, m1, m2, m3, m4, o1]
        by_cases k5 : x.Kind = 5
        · by_cases o1 : x.Order = 0
          · have : joinO qa x y z = some y.Order := by simp [joinO, k3, k5, o1]
            simp only [this, Option.map_some]
            refine run t_impl_stepInfo rfl ?_
            simp +decide [M_impl_stepInfo, k1, k2, k3, k5, a0, w2, w3, z1, z2, z3, z4, z5, z6, z7, t2, t3, t4, u2, u3, u4, q1, q2, m1, m2, m3, m4, o1]
          · have : joinO qa x y z = none := by simp [joinO, k3, k5, o1]
            simp only [this, Option.map_none]
            refine ⟨⟨orI y.Mask z.Mask, y.Order, s, t⟩, run t_impl_stepInfo rfl ?_⟩
            simp +decide [M_impl_stepInfo, k1, k2, k3, k5, a0, w2, w3, z1, z2, z3, z4, z5, z6, z7, t2, t3, t4, u2, u3, u4, q1, q2, m1, m2, m3, m4, o1]
        by_cases k4 : x.Kind = 4
        · by_cases o0 : (vin qa y.Mask x.Order && vin qa z.Mask x.Order) = true
          · rw [o0] at q3
            simp only [Bool.and_eq_true] at o0
            by_cases o3 : y.Order = x.Order
            · by_cases o4 : z.Order = x.Order
              · have : joinO qa x y z = some x.Order := by simp [joinO, k4, o0, o3, o4]
                simp only [this, Option.map_some]
                refine run t_impl_stepInfo rfl ?_
                simp +decide [M_impl_stepInfo, k1, k2, k3, k4, a0, w2, w3, z1, z2, z3, z4, z5, z6, z7, t2, t3, t4, u2, u3, u4, q1, q2, q3, m1, m2, m3, m4, o3, o4]
              · have : joinO qa x y z = none := by simp [joinO, k4, o4]
                simp only [this, Option.map_none]
                refine ⟨⟨orI y.Mask z.Mask, x.Order, s, t⟩, run t_impl_stepInfo rfl ?_⟩
                simp +decide [M_impl_stepInfo, k1, k2, k3, k4, a0, w2, w3, z1, z2, z3, z4, z5, z6, z7, t2, t3, t4, u2, u3, u4, q1, q2, q3, m1, m2, m3, m4, o3, o4]
            · have : joinO qa x y z = none := by simp [joinO, k4, o3]
              simp only [this, Option.map_none]
              refine ⟨⟨orI y.Mask z.Mask, x.Order, s, t⟩, run t_impl_stepInfo rfl ?_⟩
              simp +decide [M_impl_stepInfo, k1, k2, k3, k4, a0, w2, w3, z1, z2, z3, z4, z5, z6, z7, t2, t3, t4, u2, u3, u4, q1, q2, q3, m1, m2, m3, m4, o3]
          · have o1 : (vin qa y.Mask x.Order && vin qa z.Mask x.Order) = false := by simpa using o0
            rw [o1] at q3
            have : joinO qa x y z = none := by
              simp only [Bool.and_eq_true] at o0
              have : ¬ (x.Kind = 4 ∧ vin qa y.Mask x.Order = true ∧ vin qa z.Mask x.Order = true ∧ y.Order = x.Order ∧ z.Order = x.Order) := fun hc => o0 ⟨hc.2.1, hc.2.2.1⟩
              simp [joinO, k3, k5, this]
            simp only [this, Option.map_none]
            refine ⟨⟨orI y.Mask z.Mask, x.Order, s, t⟩, run t_impl_stepInfo rfl ?_⟩
            simp +decide [M_impl_stepInfo, k1, k2, k3, k4, a0, w2, w3, z1, z2, z3, z4, z5, z6, z7, t2, t3, t4, u2, u3, u4, q1, q2, q3, m1, m2, m3, m4]
        · have : joinO qa x y z = none := by simp [joinO, k3, k4, k5]
          simp only [this, Option.map_none]
          refine ⟨⟨orI y.Mask z.Mask, -1, s, t⟩, run t_impl_stepInfo rfl ?_⟩
          simp +decide [M_impl_stepInfo, k1, k2, k3, k4, k5, a0, w2, w3, z1, z2, z3, z4, z5, z6, z7, t2, t3, t4, u2, u3, u4, q1, q2, m1, m2, m3, m4]
    · simp only [m1, false_and, if_false]
      refine ⟨⟨orI y.Mask z.Mask, -1, s, t⟩, run t_impl_stepInfo rfl ?_⟩
      simp +decide [M_impl_stepInfo, k1, k2, a0, w2, w3, z1, z2, z3, z4, z5, z6, z7, t2, t3, t4, u2, u3, u4, q1, q2, m1]
  · have u1 : topAt st info 2 = none := by simp [topAt, hz]
    have z1 : (st.length : Int) < 2 := by omega
    rw [u1]
    simp only [k1, k2, a0, if_false, ne_eq, not_true]
    refine ⟨⟨0, -1, -1, -1⟩, run t_impl_stepInfo rfl ?_⟩
    simp +decide [M_impl_stepInfo, k1, k2, a0, z1]
end Go.Proofs.Ytiniphmomjnocaa
