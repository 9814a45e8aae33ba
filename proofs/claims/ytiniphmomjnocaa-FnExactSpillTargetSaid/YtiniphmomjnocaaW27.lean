/-
  PlanInfo of the reference, the contracts, PlanMask.
-/
import Derived.Test.YtiniphmomjnocaaW26
namespace Go.Proofs.Ytiniphmomjnocaa
open Go.AM
set_option linter.unusedSimpArgs false
set_option linter.unusedVariables false

theorem flatI (xs : List Int) (k : Nat) : ((xs.map ic).take k).all (fun x => x.all scalar) = true := by
  rw [List.all_eq_true]
  intro x hx
  have := List.mem_of_mem_take hx
  simp only [List.mem_map] at this
  obtain ⟨a, _, rfl⟩ := this
  rfl
theorem l_spec_PlanInfo (n : Int) (qa : List Atom) (h : validQ n qa = true) (steps : List PlanStep) (hl : steps.length ≤ 14) : ∀ i, i ≤ steps.length → ∀ info st, StOk info st → info.length = i → st.length ≤ i →
    match planGo qa (steps.drop i) i info st with
    | some (info', st') => ∀ fr, EvL C fr [2, 3, 6, 7, 8] B_spec_PlanInfo_0 ⟨[(2, .ptr 0 0), (3, .ptr 1 0), (6, .own 2), (7, .own 3), (8, I i)], [[]], [qB n qa, .box [L 3 (steps.map PlanStep.c)], .arr t_impl_StepInfo 4 true (info.map SI.c), .arr t_int 1 true (st.map ic)]⟩ =
      EvX C fr (.x 0) ⟨[(2, .ptr 0 0), (3, .ptr 1 0), (6, .own 2), (7, .own 3), (8, I steps.length), (28, Bo false)], [[]], [qB n qa, .box [L 3 (steps.map PlanStep.c)], .arr t_impl_StepInfo 4 true (info'.map SI.c), .arr t_int 1 true (st'.map ic)]⟩
    | none => ∃ a b, ∀ fr, EvL C fr [2, 3, 6, 7, 8] B_spec_PlanInfo_0 ⟨[(2, .ptr 0 0), (3, .ptr 1 0), (6, .own 2), (7, .own 3), (8, I i)], [[]], [qB n qa, .box [L 3 (steps.map PlanStep.c)], .arr t_impl_StepInfo 4 true (info.map SI.c), .arr t_int 1 true (st.map ic)]⟩ =
      EvX C fr .r ⟨[(4, .own 5), (5, Bo false)], [[]], [qB n qa, .box [L 3 (steps.map PlanStep.c)], a, b, .box [I 0, I 0, I 0, I 0], .arr t_impl_StepInfo 4 true []]⟩ := by
  refine down _ ?_ ?_
  · intro info st _ _ _
    rw [List.drop_length, planGo]
    intro fr
    rw [EvL_eq B_spec_PlanInfo_0.eq_1]
    simp
  · intro i hi ih info st hs hil hst
    have h5 := inc64 (i := i) (by omega)
    have q := c_l23Step n qa h steps[i] info st hs (by omega) (by omega)
    rw [planGo_drop qa hi]
    cases he : stepI qa steps[i] info st with
    | none =>
      rw [he] at q
      simp only at q ⊢
      refine ⟨.arr t_impl_StepInfo 4 true (info.map SI.c), .arr t_int 1 true (st.map ic), fun fr => ?_⟩
      rw [EvL_eq B_spec_PlanInfo_0.eq_1]
      simp +decide [hi, q]
    | some y =>
      rw [he] at q
      obtain ⟨f1, f2, f3⟩ := step_facts hs he
      rw [f1] at q
      simp only at q ⊢
      have hn := st_next hs y (st.length - pops y)
      rw [hil] at hn
      have ih := ih (info ++ [y]) (st.take (st.length - pops y) ++ [(i : Int)]) hn (by simp [hil]) (st_len hst _)
      have r1 : (info.length + 1) * 32 ≤ room := room1 (by omega) (by omega)
      have r2 : info.length + 1 ≤ room := room2 (by omega)
      have e5 : ∀ fr, EvL C fr [2, 3, 6, 7, 8] B_spec_PlanInfo_0 ⟨[(2, .ptr 0 0), (3, .ptr 1 0), (6, .own 2), (7, .own 3), (8, I i)], [[]], [qB n qa, .box [L 3 (steps.map PlanStep.c)], .arr t_impl_StepInfo 4 true (info.map SI.c), .arr t_int 1 true (st.map ic)]⟩ =
          EvL C fr [2, 3, 6, 7, 8] B_spec_PlanInfo_0 ⟨[(2, .ptr 0 0), (3, .ptr 1 0), (6, .own 2), (7, .own 3), (8, I (i + 1 : Nat))], [[]], [qB n qa, .box [L 3 (steps.map PlanStep.c)], .arr t_impl_StepInfo 4 true ((info ++ [y]).map SI.c), .arr t_int 1 true ((st.take (st.length - pops y) ++ [(i : Int)]).map ic)]⟩ := by
        intro fr
        rw [EvL_eq B_spec_PlanInfo_0.eq_1]
        have w2 : IntKind.wrap .i64 ((st.length : Int) - (pops y : Int)) = (st.length : Int) - (pops y : Int) := wrap64 (by omega) (by omega)
        have z0 : ¬ ((pops y : Int) < 0) := by omega
        have z1 : (pops y : Int) ≤ st.length := by omega
        have z2 : ((st.length : Int) - (pops y : Int)).toNat = st.length - pops y := by omega
        have z3 : min (st.length - pops y) st.length = st.length - pops y := by omega
        have r3 : (st.length - pops y + 1) * 8 ≤ room := room1 (by omega) (by omega)
        have r4 : st.length - pops y + 1 ≤ room := room2 (by omega)
        have r5 : (st.length - pops y) * 8 ≤ room := room1 (by omega) (by omega)
        have r6 : st.length - pops y ≤ room := room2 (by omega)
        have hf := flatI st (st.length - pops y)
        simp +decide [hi, h5, q, r1, r2, w2, z0, z1, z2, z3, r3, r4, r5, r6, hf]
      simp only [e5]
      exact ih

theorem c_impl_PlanInfo (n : Int) (qa : List Atom) (steps : List PlanStep) (hq : Le qa) (hv : ∀ a ∈ qa, Le a.Vars) :
    C f_impl_PlanInfo [.agg [I n, L 2 (qa.map Atom.c)], .agg [L 3 (steps.map PlanStep.c)]] [] = match planInfo n qa steps with
    | some info => some (.tup [.own 0, Bo true], [.arr t_impl_StepInfo 4 true (info.map SI.c)])
    | none => some (.tup [.t .nil, Bo false], []) := by
  have q := c_impl_IsValidQuery n qa hq hv
  unfold planInfo
  rcases tf (validQ n qa) with e | e
  · simp only [e, Bool.false_eq_true, false_and, if_false]
    refine run t_impl_PlanInfo rfl ?_
    simp [M_impl_PlanInfo, q, e]
  rcases tf (inR steps.length 1 14) with e2 | e2
  · simp only [e2, Bool.false_eq_true, and_false, if_false]
    refine run t_impl_PlanInfo rfl ?_
    simp [M_impl_PlanInfo, q, e, e2]
  · have e3 := e2
    simp [inR] at e3
    have b := l_impl_PlanInfo n qa e steps (by omega) 0 (Nat.zero_le _) [] [] (fun s hs => by cases hs) rfl (Nat.le_refl _)
    simp only [e, e2, and_self, if_true]
    simp only [List.drop_zero] at b
    cases hg : planGo qa steps 0 [] [] with
    | none =>
      rw [hg] at b
      obtain ⟨hp, b⟩ := b
      simp only
      refine run t_impl_PlanInfo rfl ?_
      simp at b
      simp [M_impl_PlanInfo, q, e, e2, b]
    | some p =>
      obtain ⟨info, st⟩ := p
      rw [hg] at b
      simp only at b ⊢
      simp at b
      by_cases c1 : st.length = 1
      · rw [if_pos c1]
        refine run t_impl_PlanInfo rfl ?_
        simp [M_impl_PlanInfo, q, e, e2, b, c1]
      · have c2 : ¬ (st.length : Int) = 1 := by omega
        rw [if_neg c1]
        refine run t_impl_PlanInfo rfl ?_
        simp [M_impl_PlanInfo, q, e, e2, b, c1, c2]

theorem c_spec_PlanInfo (n : Int) (qa : List Atom) (steps : List PlanStep) (hq : Le qa) (hv : ∀ a ∈ qa, Le a.Vars) :
    C f_spec_PlanInfo [.agg [I n, L 2 (qa.map Atom.c)], .agg [L 3 (steps.map PlanStep.c)]] [] = match planInfo n qa steps with
    | some info => some (.tup [.own 0, Bo true], [.arr t_impl_StepInfo 4 true (info.map SI.c)])
    | none => some (.tup [.own 0, Bo false], [.arr t_impl_StepInfo 4 true []]) := by
  have q := c_spec_IsValidQuery n qa hq hv
  unfold planInfo
  rcases tf (validQ n qa) with e | e
  · simp only [e, Bool.false_eq_true, false_and, if_false]
    refine run t_spec_PlanInfo rfl ?_
    simp [M_spec_PlanInfo, q, e]
  rcases tf (inR steps.length 1 14) with e2 | e2
  · simp only [e2, Bool.false_eq_true, and_false, if_false]
    refine run t_spec_PlanInfo rfl ?_
    simp [M_spec_PlanInfo, q, e, e2]
  · have e3 := e2
    simp [inR] at e3
    have b := l_spec_PlanInfo n qa e steps (by omega) 0 (Nat.zero_le _) [] [] (fun s hs => by cases hs) rfl (Nat.le_refl _)
    simp only [e, e2, and_self, if_true]
    simp only [List.drop_zero] at b
    cases hg : planGo qa steps 0 [] [] with
    | none =>
      rw [hg] at b
      obtain ⟨x, y, b⟩ := b
      simp only
      refine run t_spec_PlanInfo rfl ?_
      simp at b
      simp [M_spec_PlanInfo, q, e, e2, b]
    | some p =>
      obtain ⟨info, st⟩ := p
      rw [hg] at b
      simp only at b ⊢
      simp at b
      by_cases c1 : st.length = 1
      · rw [if_pos c1]
        refine run t_spec_PlanInfo rfl ?_
        simp [M_spec_PlanInfo, q, e, e2, b, c1]
      · have c2 : ¬ (st.length : Int) = 1 := by omega
        rw [if_neg c1]
        refine run t_spec_PlanInfo rfl ?_
        simp [M_spec_PlanInfo, q, e, e2, b, c1, c2]

/-! ### what an info says -/

theorem planGo_len {qa : List Atom} : ∀ {xs : List PlanStep} {i : Nat} {info : List SI} {st : List Int} {info' : List SI} {st' : List Int}, planGo qa xs i info st = some (info', st') → info'.length = info.length + xs.length
  | [], _, _, _, _, _, h => by simp [planGo] at h; simp [h.1]
  | x :: xs, i, info, st, info', st', h => by
    rw [planGo] at h
    split at h
    · cases h
    · have := planGo_len h
      simp at this ⊢
      omega
theorem planInfo_len {n : Int} {qa : List Atom} {steps : List PlanStep} {info : List SI} (h : planInfo n qa steps = some info) : validQ n qa = true ∧ info.length = steps.length ∧ 1 ≤ steps.length ∧ steps.length ≤ 14 := by
  unfold planInfo at h
  split at h
  · rename_i hc
    have h2 := hc.2
    simp [inR] at h2
    split at h
    · rename_i info' st hg
      split at h
      · cases h
        have := planGo_len hg
        simp at this
        exact ⟨hc.1, this, by omega, by omega⟩
      · cases h
    · cases h
  · cases h

def planMask (n : Int) (qa : List Atom) (steps : List PlanStep) : Int := match planInfo n qa steps with
  | some info => match info[info.length - 1]? with
    | some y => y.Mask
    | none => 0
  | none => 0
theorem c_impl_PlanMask (n : Int) (qa : List Atom) (steps : List PlanStep) (hq : Le qa) (hv : ∀ a ∈ qa, Le a.Vars) :
    C f_impl_PlanMask [.agg [I n, L 2 (qa.map Atom.c)], .agg [L 3 (steps.map PlanStep.c)]] [] = some (I (planMask n qa steps), []) := by
  refine run t_impl_PlanMask rfl ?_
  have q := c_impl_PlanInfo n qa steps hq hv
  unfold planMask
  cases he : planInfo n qa steps with
  | none => rw [he] at q; simp only at q ⊢; simp [M_impl_PlanMask, q]
  | some info =>
    obtain ⟨l1, l2, l3, l4⟩ := planInfo_len he
    rw [he] at q
    simp only at q ⊢
    have hlt : info.length - 1 < info.length := by omega
    have w : IntKind.wrap .i64 ((info.length : Int) - 1) = (info.length : Int) - 1 := wrap64 (by omega) (by omega)
    have z1 : (1 : Int) ≤ info.length := by omega
    have z2 : ((info.length : Int) - 1).toNat = info.length - 1 := by omega
    rw [List.getElem?_eq_getElem hlt]
    simp [M_impl_PlanMask, q, w, z1, z2, hlt]
theorem c_spec_PlanMask (n : Int) (qa : List Atom) (steps : List PlanStep) (hq : Le qa) (hv : ∀ a ∈ qa, Le a.Vars) :
    C f_spec_PlanMask [.agg [I n, L 2 (qa.map Atom.c)], .agg [L 3 (steps.map PlanStep.c)]] [] = some (I (planMask n qa steps), []) := by
  refine run t_spec_PlanMask rfl ?_
  have q := c_spec_PlanInfo n qa steps hq hv
  unfold planMask
  cases he : planInfo n qa steps with
  | none => rw [he] at q; simp only at q ⊢; simp [M_spec_PlanMask, q]
  | some info =>
    obtain ⟨l1, l2, l3, l4⟩ := planInfo_len he
    rw [he] at q
    simp only at q ⊢
    have hlt : info.length - 1 < info.length := by omega
    have w : IntKind.wrap .i64 ((info.length : Int) - 1) = (info.length : Int) - 1 := wrap64 (by omega) (by omega)
    have z1 : (1 : Int) ≤ info.length := by omega
    have z2 : ((info.length : Int) - 1).toNat = info.length - 1 := by omega
    rw [List.getElem?_eq_getElem hlt]
    simp [M_spec_PlanMask, q, w, z1, z2, hlt]
end Go.Proofs.Ytiniphmomjnocaa
