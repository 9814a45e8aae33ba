/-
  PROVED: 'FnExactEqualReplies' returns true for every input, and its arguments read as they did. No condition.
-/
import Derived.Test.YtlnnmndebmkdhaaW1
namespace Go.Proofs.Ytlnnmndebmkdhaa
open Go.AM
open Go.ChangeShapes Go.WideShapes Go.ChangeAt Go.RowKit
set_option linter.unusedSimpArgs false
set_option linter.unusedVariables false

theorem lawEqualReplies (a b : Reply) (ha : a.okay) (hb : b.okay) : C f_laws_FnExactEqualReplies [.agg (a.c.map .t), .agg (b.c.map .t)] = some (Bo true, []) := by
  refine run t_laws_FnExactEqualReplies rfl ?_
  have e1 := c_szReply a.Mode a.Cost a.Runs a.Answer.Vars a.Answer.Rows 1048576 ha.2.2.2.2
  have e2 := fun l => c_szReply b.Mode b.Cost b.Runs b.Answer.Vars b.Answer.Rows l hb.2.2.2.2
  by_cases h1 : Reply.sz a 1048576 < 0
  · simp [M_laws_FnExactEqualReplies, e1, h1]
  · obtain ⟨g1, g2, g3, g4⟩ := Reply.sz_ok a 1048576 ha (by omega) (by omega) (by omega)
    by_cases h2 : Reply.sz b (Reply.sz a 1048576) < 0
    · simp [M_laws_FnExactEqualReplies, e1, h1, e2, h2]
    · obtain ⟨k1, k2, k3, k4⟩ := Reply.sz_ok b _ hb (by omega) (by omega) (by omega : 0 ≤ Reply.sz b (Reply.sz a 1048576))
      have n1 : Le a.Answer.Vars := by omega
      have n2 : Le a.Answer.Rows := by omega
      have n3 : ∀ x ∈ a.Answer.Rows, Le x := fun x hx => by have := g4 x hx; omega
      have t1 := c_toReply a.Mode a.Cost a.Runs a.Answer.Vars a.Answer.Rows g2 ⟨g3, g4⟩
      have t2 := c_toReply b.Mode b.Cost b.Runs b.Answer.Vars b.Answer.Rows k2 ⟨k3, k4⟩
      have q1 := fun x0 x1 x2 x3 x4 => c_eqReply a.Mode a.Cost a.Runs a.Answer.Vars a.Answer.Rows x0 x1 x2 x3 x4 g2 ⟨g3, g4⟩
      have q2 := fun x0 x1 x2 x3 x4 => c_eqReply b.Mode b.Cost b.Runs b.Answer.Vars b.Answer.Rows x0 x1 x2 x3 x4 k2 ⟨k3, k4⟩
      simp +decide [M_laws_FnExactEqualReplies, e1, h1, e2, h2, t1, t2, c_spec_EqualReplies _ _ _ _ _ _ _ _ _ _ n1 n2 n3, c_impl_EqualReplies _ _ _ _ _ _ _ _ _ _ n1 n2 n3, q1, q2]
end Go.Proofs.Ytlnnmndebmkdhaa
