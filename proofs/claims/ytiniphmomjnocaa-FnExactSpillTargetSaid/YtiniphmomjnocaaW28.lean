/-
  IsValidRegion: the walks and the law.
-/
import Derived.Test.YtiniphmomjnocaaW27
namespace Go.Proofs.Ytiniphmomjnocaa
open Go.AM
set_option linter.unusedSimpArgs false
set_option linter.unusedVariables false

def validReg (n : Int) (qa : List Atom) (steps : List PlanStep) (lo hi : List Int) (pc : Int) : Bool :=
  validQ n qa && boxOkQ n qa lo hi && decide (planMask n qa steps = fullM n qa) && inR pc 100 1000

theorem fullM_pos {n : Int} {qa : List Atom} (h : validQ n qa = true) : 0 < fullM n qa := by
  obtain ⟨h1, h2, _⟩ := shl_len h
  unfold fullM
  rw [if_pos h, h2]
  rcases h1 with h1 | h1 | h1 | h1 <;> rw [h1] <;> decide

theorem c_impl_IsValidRegion (n : Int) (qa : List Atom) (steps : List PlanStep) (lo hi : List Int) (pc : Int) (hq : Le qa) (hv : ∀ a ∈ qa, Le a.Vars) (h1 : Le lo) (h2 : Le hi) :
    C f_impl_IsValidRegion [.agg [I n, L 2 (qa.map Atom.c)], .agg [L 3 (steps.map PlanStep.c), .t (tI lo), .t (tI hi), I pc]] [] = some (Bo (validReg n qa steps lo hi pc), []) := by
  refine run t_impl_IsValidRegion rfl ?_
  have q1 := c_impl_IsValidQuery n qa hq hv
  have q2 := c_impl_boxOk n qa lo hi hq hv h1 h2
  have q3 := c_impl_PlanMask n qa steps hq hv
  have q4 := c_impl_FullMask n qa hq hv
  unfold validReg
  rcases tf (validQ n qa) with e1 | e1
  · simp +decide [M_impl_IsValidRegion, q1, e1]
  rcases tf (boxOkQ n qa lo hi) with e2 | e2
  · simp +decide [M_impl_IsValidRegion, q1, q2, e1, e2]
  by_cases e3 : planMask n qa steps = fullM n qa
  · simp +decide [M_impl_IsValidRegion, q1, q2, q3, q4, e1, e2, e3]
  · simp +decide [M_impl_IsValidRegion, q1, q2, q3, q4, e1, e2, e3]
theorem c_spec_IsValidRegion (n : Int) (qa : List Atom) (steps : List PlanStep) (lo hi : List Int) (pc : Int) (hq : Le qa) (hv : ∀ a ∈ qa, Le a.Vars) (h1 : Le lo) (h2 : Le hi) :
    C f_spec_IsValidRegion [.agg [I n, L 2 (qa.map Atom.c)], .agg [L 3 (steps.map PlanStep.c), .t (tI lo), .t (tI hi), I pc]] [] = some (Bo (validReg n qa steps lo hi pc), []) := by
  refine run t_spec_IsValidRegion rfl ?_
  have q2 := c_spec_IsValidBox lo hi h1 h2
  have q3 := c_spec_PlanMask n qa steps hq hv
  have q4 := c_spec_FullMask n qa hq hv
  have q5 := fullM_inc n qa
  unfold validReg boxOkQ
  rcases tf (validBox lo hi) with e2 | e2
  · simp +decide [M_spec_IsValidRegion, q2, e2]
  by_cases e4 : (lo.length : Int) = fullM n qa + 1
  · by_cases e3 : planMask n qa steps = fullM n qa
    · rcases tf (validQ n qa) with e1 | e1
      · have e5 : fullM n qa = 0 := by unfold fullM; rw [e1]; rfl
        simp +decide [M_spec_IsValidRegion, q2, q3, q4, q5, e2, e4, e3, e1, e5]
      · have e5 := fullM_pos e1
        simp +decide [M_spec_IsValidRegion, q2, q3, q4, q5, e2, e4, e3, e1, e5]
    · simp +decide [M_spec_IsValidRegion, q2, q3, q4, q5, e2, e4, e3]
  · simp +decide [M_spec_IsValidRegion, q2, q3, q4, q5, e2, e4]

theorem lawIsValidRegion (a : Query) (b : Region) (ha : a.okay) (hb : b.okay) : C f_laws_FnExactIsValidRegion [.agg (a.c.map .t), .agg (b.c.map .t)] [] = some (Bo true, []) := by
  refine run t_laws_FnExactIsValidRegion rfl ?_
  have e1 := c_szQuery a.VariableCount a.Atoms 1048576 ha.2
  have e2 := fun l => c_szRegion b.Plan.Steps b.Box.Low b.Box.High b.Percent l
  by_cases h1 : Query.sz a 1048576 < 0
  · simp [M_laws_FnExactIsValidRegion, e1, h1]
  obtain ⟨g1, g2⟩ := Query.sz_ok a 1048576 ha (by omega) (by omega) (by omega)
  by_cases h2 : Region.sz b (Query.sz a 1048576) < 0
  · simp [M_laws_FnExactIsValidRegion, e1, h1, e2, h2]
  obtain ⟨k1, k2⟩ := Region.sz_ok b _ hb (by omega) (by omega) (by omega : 0 ≤ Region.sz b (Query.sz a 1048576))
  have n1 : Le a.Atoms := by have := g2.1; omega
  have n2 : ∀ x ∈ a.Atoms, Le x.Vars := fun x hx => by have := (g2.2 x hx).2; omega
  have n3 : Le b.Box.Low := by have := k2.2.1; omega
  have n4 : Le b.Box.High := by have := k2.2.2; omega
  have t1 := c_toQuery a.VariableCount a.Atoms g2
  have t2 := c_toRegion b.Plan.Steps b.Box.Low b.Box.High b.Percent k2.1 k2.2.1 k2.2.2
  have q1 := fun x0 x1 => c_eqQuery a.VariableCount a.Atoms x0 x1 g2
  have q2 := fun x0 x1 x2 x3 => c_eqRegion b.Plan.Steps b.Box.Low b.Box.High b.Percent x0 x1 x2 x3 k2.1 k2.2.1 k2.2.2
  have s1 := c_spec_IsValidRegion a.VariableCount a.Atoms b.Plan.Steps b.Box.Low b.Box.High b.Percent n1 n2 n3 n4
  have s2 := c_impl_IsValidRegion a.VariableCount a.Atoms b.Plan.Steps b.Box.Low b.Box.High b.Percent n1 n2 n3 n4
  simp +decide [M_laws_FnExactIsValidRegion, e1, h1, e2, h2, t1, t2, s1, s2, q1, q2]
end Go.Proofs.Ytiniphmomjnocaa
