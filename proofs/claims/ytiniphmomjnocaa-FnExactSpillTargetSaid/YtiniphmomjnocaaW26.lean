/-
  PlanInfo.
-/
import Derived.Test.YtiniphmomjnocaaW25
namespace Go.Proofs.Ytiniphmomjnocaa
open Go.AM
set_option linter.unusedSimpArgs false
set_option linter.unusedVariables false

def pops (y : SI) : Nat := if 0 ≤ y.Right then 2 else if 0 ≤ y.Left then 1 else 0
def planGo (qa : List Atom) : List PlanStep → Nat → List SI → List Int → Option (List SI × List Int)
  | [], _, info, st => some (info, st)
  | x :: xs, i, info, st => match stepI qa x info st with
    | none => none
    | some y => planGo qa xs (i + 1) (info ++ [y]) (st.take (st.length - pops y) ++ [(i : Int)])
theorem planGo_drop (qa : List Atom) {xs : List PlanStep} {i : Nat} (h : i < xs.length) (info : List SI) (st : List Int) : planGo qa (xs.drop i) i info st = match stepI qa xs[i] info st with
    | none => none
    | some y => planGo qa (xs.drop (i + 1)) (i + 1) (info ++ [y]) (st.take (st.length - pops y) ++ [(i : Int)]) := by
  rw [List.drop_eq_getElem_cons h, planGo]
def planInfo (n : Int) (qa : List Atom) (steps : List PlanStep) : Option (List SI) :=
  if validQ n qa = true ∧ inR steps.length 1 14 = true then (match planGo qa steps 0 [] [] with
    | some (info, st) => if st.length = 1 then some info else none
    | none => none) else none

theorem topAt_some {st : List Int} {info : List SI} {k : Nat} {s : Int} {y : SI} (hs : StOk info st) (h1 : 1 ≤ k) (h : topAt st info k = some (s, y)) : k ≤ st.length ∧ 0 ≤ s ∧ s.toNat < info.length ∧ info[s.toNat]? = some y := by
  have hk : k ≤ st.length := by
    unfold topAt at h
    split at h
    · assumption
    · cases h
  obtain ⟨s', y', q1, q2, q3, q4⟩ := topAt_ok hs h1 hk
  rw [q1] at h
  cases h
  exact ⟨hk, q3, (List.getElem?_eq_some_iff.1 q4).1, q4⟩

/-- what a step's info says -/
theorem step_facts {qa : List Atom} {x : PlanStep} {info : List SI} {st : List Int} {y : SI} (hs : StOk info st) (h : stepI qa x info st = some y) :
    popsI x = pops y ∧ pops y ≤ st.length ∧ (0 ≤ y.Right ↔ 3 ≤ x.Kind) := by
  unfold stepI at h
  unfold popsI pops
  split at h
  · rename_i k1
    split at h
    · cases h; simp [k1]
    · cases h
  · rename_i k1
    split at h
    · cases h
    · split at h
      · rename_i k2
        split at h
        · rename_i s y' ht
          split at h
          · cases h
            obtain ⟨t1, t2, _⟩ := topAt_some hs (Nat.le_refl 1) ht
            simp [k2, t2, t1]
          · cases h
        · cases h
      · rename_i k2
        split at h
        · rename_i s y' t z ht hu
          split at h
          · obtain ⟨t1, t2, _⟩ := topAt_some hs (by omega : 1 ≤ 2) ht
            obtain ⟨u1, u2, _⟩ := topAt_some hs (by omega : 1 ≤ 1) hu
            obtain ⟨o, ho, rfl⟩ := Option.map_eq_some_iff.1 h
            have hk : x.Kind = 3 ∨ x.Kind = 4 ∨ x.Kind = 5 := by
              unfold joinO at ho
              split at ho
              · omega
              · split at ho
                · omega
                · split at ho
                  · omega
                  · cases ho
            simp only [u2, if_true, k1, k2, if_false]
            refine ⟨rfl, t1, ?_⟩
            simp; omega
          · cases h
        · cases h

theorem st_next {info : List SI} {st : List Int} (hs : StOk info st) (y : SI) (k : Nat) : StOk (info ++ [y]) (st.take k ++ [(info.length : Int)]) := by
  intro s h
  rcases List.mem_append.1 h with h | h
  · obtain ⟨h1, h2⟩ := hs s (List.mem_of_mem_take h)
    exact ⟨h1, by simp; omega⟩
  · simp at h
    subst h
    simp
theorem st_len {st : List Int} {i k : Nat} (h : st.length ≤ i) (x : Int) : (st.take k ++ [x]).length ≤ i + 1 := by simp; omega

theorem l_impl_PlanInfo (n : Int) (qa : List Atom) (h : validQ n qa = true) (steps : List PlanStep) (hl : steps.length ≤ 14) : ∀ i, i ≤ steps.length → ∀ info st, StOk info st → info.length = i → st.length ≤ i →
    match planGo qa (steps.drop i) i info st with
    | some (info', st') => ∀ fr, EvL C fr [2, 6, 7, 25, 26, 27] B_impl_PlanInfo_0 ⟨[(2, .ptr 0 0), (6, .own 1), (7, .own 2), (25, L 3 (steps.map PlanStep.c)), (26, I steps.length), (27, I i)], [[]], [qB n qa, .arr t_impl_StepInfo 4 true (info.map SI.c), .arr t_int 1 true (st.map ic)]⟩ =
      EvX C fr (.x 0) ⟨[(2, .ptr 0 0), (6, .own 1), (7, .own 2), (25, L 3 (steps.map PlanStep.c)), (26, I steps.length), (27, I steps.length), (28, Bo false)], [[]], [qB n qa, .arr t_impl_StepInfo 4 true (info'.map SI.c), .arr t_int 1 true (st'.map ic)]⟩
    | none => ∃ hp, ∀ fr, EvL C fr [2, 6, 7, 25, 26, 27] B_impl_PlanInfo_0 ⟨[(2, .ptr 0 0), (6, .own 1), (7, .own 2), (25, L 3 (steps.map PlanStep.c)), (26, I steps.length), (27, I i)], [[]], [qB n qa, .arr t_impl_StepInfo 4 true (info.map SI.c), .arr t_int 1 true (st.map ic)]⟩ =
      EvX C fr .r ⟨[(4, .t .nil), (5, Bo false)], [[]], hp⟩ := by
  refine down _ ?_ ?_
  · intro info st _ _ _
    rw [List.drop_length, planGo]
    intro fr
    rw [EvL_eq B_impl_PlanInfo_0.eq_1]
    simp
  · intro i hi ih info st hs hil hst
    have h5 := inc64 (i := i) (by omega)
    have q := c_stepInfo n qa h steps[i] info st hs (by omega) (by omega)
    rw [planGo_drop qa hi]
    cases he : stepI qa steps[i] info st with
    | none =>
      rw [he] at q
      obtain ⟨y, q⟩ := q
      simp only
      refine ⟨[qB n qa, .arr t_impl_StepInfo 4 true (info.map SI.c), .arr t_int 1 true (st.map ic), .box [I steps[i].Kind, I steps[i].Atom, I steps[i].Order], .box [I y.Mask, I y.Order, I y.Left, I y.Right]], fun fr => ?_⟩
      rw [EvL_eq B_impl_PlanInfo_0.eq_1]
      simp [hi, q]
    | some y =>
      rw [he] at q
      simp only at q ⊢
      obtain ⟨f1, f2, f3⟩ := step_facts hs he
      have hn := st_next hs y (st.length - pops y)
      rw [hil] at hn
      have ih := ih (info ++ [y]) (st.take (st.length - pops y) ++ [(i : Int)]) hn (by simp [hil]) (st_len hst _)
      have r1 : (info.length + 1) * 32 ≤ room := room1 (by omega) (by omega)
      have r2 : info.length + 1 ≤ room := room2 (by omega)
      have e5 : ∀ fr, EvL C fr [2, 6, 7, 25, 26, 27] B_impl_PlanInfo_0 ⟨[(2, .ptr 0 0), (6, .own 1), (7, .own 2), (25, L 3 (steps.map PlanStep.c)), (26, I steps.length), (27, I i)], [[]], [qB n qa, .arr t_impl_StepInfo 4 true (info.map SI.c), .arr t_int 1 true (st.map ic)]⟩ =
          EvL C fr [2, 6, 7, 25, 26, 27] B_impl_PlanInfo_0 ⟨[(2, .ptr 0 0), (6, .own 1), (7, .own 2), (25, L 3 (steps.map PlanStep.c)), (26, I steps.length), (27, I (i + 1 : Nat))], [[]], [qB n qa, .arr t_impl_StepInfo 4 true ((info ++ [y]).map SI.c), .arr t_int 1 true ((st.take (st.length - pops y) ++ [(i : Int)]).map ic)]⟩ := by
        intro fr
        rw [EvL_eq B_impl_PlanInfo_0.eq_1]
        have w2 : IntKind.wrap .i64 ((st.length : Int) - 1) = (st.length : Int) - 1 := wrap64 (by omega) (by omega)
        have w3 : IntKind.wrap .i64 ((st.length : Int) - 2) = (st.length : Int) - 2 := wrap64 (by omega) (by omega)
        unfold pops at f2 ⊢
        by_cases c1 : 0 ≤ y.Right
        · simp only [c1, if_true] at f2 ⊢
          have z1 : (2 : Int) ≤ st.length := by omega
          have z2 : ((st.length : Int) - 2).toNat = st.length - 2 := by omega
          have z3 : min (st.length - 2) st.length = st.length - 2 := by omega
          have r3 : (st.length - 2 + 1) * 8 ≤ room := room1 (by omega) (by omega)
          have r4 : st.length - 2 + 1 ≤ room := room2 (by omega)
          simp [hi, h5, q, r1, r2, c1, w3, z1, z2, z3, r3, r4]
        · by_cases c2 : 0 ≤ y.Left
          · simp only [c1, c2, if_true, if_false] at f2 ⊢
            have z1 : (1 : Int) ≤ st.length := by omega
            have z2 : ((st.length : Int) - 1).toNat = st.length - 1 := by omega
            have z3 : min (st.length - 1) st.length = st.length - 1 := by omega
            have r3 : (st.length - 1 + 1) * 8 ≤ room := room1 (by omega) (by omega)
            have r4 : st.length - 1 + 1 ≤ room := room2 (by omega)
            simp [hi, h5, q, r1, r2, c1, c2, w2, z1, z2, z3, r3, r4]
          · simp only [c1, c2, if_false] at f2 ⊢
            have r3 : (st.length + 1) * 8 ≤ room := room1 (by omega) (by omega)
            have r4 : st.length + 1 ≤ room := room2 (by omega)
            simp [hi, h5, q, r1, r2, c1, c2, r3, r4]
      simp only [e5]
      exact ih
end Go.Proofs.Ytiniphmomjnocaa
