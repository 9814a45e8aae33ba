/-
  ReadCost: the walks and the law.
-/
import Derived.Test.YtlnnmndebmkdhaaW5
namespace Go.Proofs.Ytlnnmndebmkdhaa
open Go.AM
set_option linter.unusedSimpArgs false
set_option linter.unusedVariables false

def readCost (o : Operator) (n : Int) : Int := if inR n 0 4096 then operatorCost o.Fixed o.PerLeft o.PerRight o.PerOutput o.PerPair o.Steps (roundUp n) 0 (roundUp n) else -1

theorem c_spec_ReadCost (x0 : Int) (x1 : Int) (x2 : Int) (x3 : Int) (x4 : Int) (x5 : List CostStep) (x6 : Int) (x7 : Int) (x8 : Int) (x9 : Int) (x10 : Int) (x11 : List CostStep) (x12 : Int) (x13 : Int) (x14 : Int) (x15 : Int) (x16 : Int) (x17 : List CostStep) (x18 : Int) (x19 : Int) (x20 : Int) (x21 : Int) (x22 : Int) (x23 : List CostStep) (x24 : Int) (x25 : Int) (x26 : Int) (x27 : Int) (x28 : Int) (x29 : List CostStep) (n : Int) (h5 : Le x5) : C f_spec_ReadCost [.agg [I x0, I x1, I x2, I x3, I x4, .t (.lst 2 (x5.map CostStep.c)), I x6, I x7, I x8, I x9, I x10, .t (.lst 2 (x11.map CostStep.c)), I x12, I x13, I x14, I x15, I x16, .t (.lst 2 (x17.map CostStep.c)), I x18, I x19, I x20, I x21, I x22, .t (.lst 2 (x23.map CostStep.c)), I x24, I x25, I x26, I x27, I x28, .t (.lst 2 (x29.map CostStep.c))], I n] [] = some (I (readCost ⟨x0, x1, x2, x3, x4, x5⟩ n), []) := by
  refine run t_spec_ReadCost rfl ?_
  unfold readCost
  rcases tf (inR n 0 4096) with h1 | h1 <;> simp +decide [M_spec_ReadCost, h1, c_spec_OperatorCost _ _ _ _ _ _ h5]
theorem c_impl_ReadCost (x0 : Int) (x1 : Int) (x2 : Int) (x3 : Int) (x4 : Int) (x5 : List CostStep) (x6 : Int) (x7 : Int) (x8 : Int) (x9 : Int) (x10 : Int) (x11 : List CostStep) (x12 : Int) (x13 : Int) (x14 : Int) (x15 : Int) (x16 : Int) (x17 : List CostStep) (x18 : Int) (x19 : Int) (x20 : Int) (x21 : Int) (x22 : Int) (x23 : List CostStep) (x24 : Int) (x25 : Int) (x26 : Int) (x27 : Int) (x28 : Int) (x29 : List CostStep) (n : Int) (h5 : Le x5) : C f_impl_ReadCost [.agg [I x0, I x1, I x2, I x3, I x4, .t (.lst 2 (x5.map CostStep.c)), I x6, I x7, I x8, I x9, I x10, .t (.lst 2 (x11.map CostStep.c)), I x12, I x13, I x14, I x15, I x16, .t (.lst 2 (x17.map CostStep.c)), I x18, I x19, I x20, I x21, I x22, .t (.lst 2 (x23.map CostStep.c)), I x24, I x25, I x26, I x27, I x28, .t (.lst 2 (x29.map CostStep.c))], I n] [] = some (I (readCost ⟨x0, x1, x2, x3, x4, x5⟩ n), []) := by
  refine run t_impl_ReadCost rfl ?_
  unfold readCost
  have hr := roundUp_neg n
  rcases tf (inR n 0 4096) with h1 | h1
  · have h2 := hr.2 h1
    simp +decide [M_impl_ReadCost, h1, h2]
  · have h2 : ¬ roundUp n < 0 := fun h => by have := hr.1 h; rw [h1] at this; cases this
    simp +decide [M_impl_ReadCost, h1, h2, c_impl_OperatorCost _ _ _ _ _ _ h5]

theorem lawReadCost (m : Model) (n : Int) (hm : m.okay) (hn : OkI n) : C f_laws_FnExactReadCost [.agg (m.c.map .t), I n] [] = some (Bo true, []) := by
  refine run t_laws_FnExactReadCost rfl ?_
  have e1 := c_szModel m.Scan.Fixed m.Scan.PerLeft m.Scan.PerRight m.Scan.PerOutput m.Scan.PerPair m.Scan.Steps m.Sort_.Fixed m.Sort_.PerLeft m.Sort_.PerRight m.Sort_.PerOutput m.Sort_.PerPair m.Sort_.Steps m.Hash.Fixed m.Hash.PerLeft m.Hash.PerRight m.Hash.PerOutput m.Hash.PerPair m.Hash.Steps m.Merge.Fixed m.Merge.PerLeft m.Merge.PerRight m.Merge.PerOutput m.Merge.PerPair m.Merge.Steps m.Nested.Fixed m.Nested.PerLeft m.Nested.PerRight m.Nested.PerOutput m.Nested.PerPair m.Nested.Steps 1048576
  by_cases h1 : Model.sz m 1048576 < 0
  · simp [M_laws_FnExactReadCost, e1, h1]
  · obtain ⟨g1, g2, g3, g4, g5, g6⟩ := Model.sz_ok m 1048576 hm (by omega) (by omega) (by omega)
    have n1 : Le m.Scan.Steps := by omega
    have t1 := c_toModel m.Scan.Fixed m.Scan.PerLeft m.Scan.PerRight m.Scan.PerOutput m.Scan.PerPair m.Scan.Steps m.Sort_.Fixed m.Sort_.PerLeft m.Sort_.PerRight m.Sort_.PerOutput m.Sort_.PerPair m.Sort_.Steps m.Hash.Fixed m.Hash.PerLeft m.Hash.PerRight m.Hash.PerOutput m.Hash.PerPair m.Hash.Steps m.Merge.Fixed m.Merge.PerLeft m.Merge.PerRight m.Merge.PerOutput m.Merge.PerPair m.Merge.Steps m.Nested.Fixed m.Nested.PerLeft m.Nested.PerRight m.Nested.PerOutput m.Nested.PerPair m.Nested.Steps g2 g3 g4 g5 g6
    have q1 := c_eqModel m.Scan.Fixed m.Scan.PerLeft m.Scan.PerRight m.Scan.PerOutput m.Scan.PerPair m.Scan.Steps m.Sort_.Fixed m.Sort_.PerLeft m.Sort_.PerRight m.Sort_.PerOutput m.Sort_.PerPair m.Sort_.Steps m.Hash.Fixed m.Hash.PerLeft m.Hash.PerRight m.Hash.PerOutput m.Hash.PerPair m.Hash.Steps m.Merge.Fixed m.Merge.PerLeft m.Merge.PerRight m.Merge.PerOutput m.Merge.PerPair m.Merge.Steps m.Nested.Fixed m.Nested.PerLeft m.Nested.PerRight m.Nested.PerOutput m.Nested.PerPair m.Nested.Steps m.Scan.Fixed m.Scan.PerLeft m.Scan.PerRight m.Scan.PerOutput m.Scan.PerPair m.Scan.Steps m.Sort_.Fixed m.Sort_.PerLeft m.Sort_.PerRight m.Sort_.PerOutput m.Sort_.PerPair m.Sort_.Steps m.Hash.Fixed m.Hash.PerLeft m.Hash.PerRight m.Hash.PerOutput m.Hash.PerPair m.Hash.Steps m.Merge.Fixed m.Merge.PerLeft m.Merge.PerRight m.Merge.PerOutput m.Merge.PerPair m.Merge.Steps m.Nested.Fixed m.Nested.PerLeft m.Nested.PerRight m.Nested.PerOutput m.Nested.PerPair m.Nested.Steps g2 g3 g4 g5 g6
    have r1 := c_spec_ReadCost m.Scan.Fixed m.Scan.PerLeft m.Scan.PerRight m.Scan.PerOutput m.Scan.PerPair m.Scan.Steps m.Sort_.Fixed m.Sort_.PerLeft m.Sort_.PerRight m.Sort_.PerOutput m.Sort_.PerPair m.Sort_.Steps m.Hash.Fixed m.Hash.PerLeft m.Hash.PerRight m.Hash.PerOutput m.Hash.PerPair m.Hash.Steps m.Merge.Fixed m.Merge.PerLeft m.Merge.PerRight m.Merge.PerOutput m.Merge.PerPair m.Merge.Steps m.Nested.Fixed m.Nested.PerLeft m.Nested.PerRight m.Nested.PerOutput m.Nested.PerPair m.Nested.Steps n n1
    have r2 := c_impl_ReadCost m.Scan.Fixed m.Scan.PerLeft m.Scan.PerRight m.Scan.PerOutput m.Scan.PerPair m.Scan.Steps m.Sort_.Fixed m.Sort_.PerLeft m.Sort_.PerRight m.Sort_.PerOutput m.Sort_.PerPair m.Sort_.Steps m.Hash.Fixed m.Hash.PerLeft m.Hash.PerRight m.Hash.PerOutput m.Hash.PerPair m.Hash.Steps m.Merge.Fixed m.Merge.PerLeft m.Merge.PerRight m.Merge.PerOutput m.Merge.PerPair m.Merge.Steps m.Nested.Fixed m.Nested.PerLeft m.Nested.PerRight m.Nested.PerOutput m.Nested.PerPair m.Nested.Steps n n1
    simp at q1
    simp +decide [M_laws_FnExactReadCost, e1, h1, t1, r1, r2, q1]
end Go.Proofs.Ytlnnmndebmkdhaa
