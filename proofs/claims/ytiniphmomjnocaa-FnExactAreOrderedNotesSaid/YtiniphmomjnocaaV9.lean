/-
  FnExactAreOrderedNotes: the law.
-/
import Derived.Test.YtiniphmomjnocaaV8
namespace Go.Proofs.Ytiniphmomjnocaa
open Go.AM
set_option linter.unusedSimpArgs false
set_option linter.unusedVariables false
set_option maxHeartbeats 1000000

theorem lawAreOrderedNotes (a : Query) (b : Bouquet) (c : List RunNote) (ha : a.okay) (hb : b.okay) (hc : OkL RunNote.okay c) : C f_laws_FnExactAreOrderedNotes [.agg (a.c.map .t), .agg (b.c.map .t), L 5 (c.map RunNote.c)] [] = some (Bo true, []) := by
  refine run t_laws_FnExactAreOrderedNotes rfl ?_
  have e1 := c_szQuery a.VariableCount a.Atoms 1048576 ha.2
  have e2 := fun l => c_szBouquet b.Version b.Ratio b.Slack b.Box.Low b.Box.High b.Budgets b.Plans b.Contours l hb.2.2.2.2.2.2.1 hb.2.2.2.2.2.2.2
  by_cases h1 : Query.sz a 1048576 < 0
  · simp [M_laws_FnExactAreOrderedNotes, e1, h1]
  obtain ⟨g1, g2⟩ := Query.sz_ok a 1048576 ha (by omega) (by omega) (by omega)
  by_cases h2 : Bouquet.sz b (Query.sz a 1048576) < 0
  · simp [M_laws_FnExactAreOrderedNotes, e1, h1, e2, h2]
  obtain ⟨k1, k2⟩ := Bouquet.sz_ok b _ hb (by omega) (by omega) (by omega : 0 ≤ Bouquet.sz b (Query.sz a 1048576))
  by_cases h3 : sz1 c.length (Bouquet.sz b (Query.sz a 1048576)) < 0
  · simp [M_laws_FnExactAreOrderedNotes, e1, h1, e2, h2, h3]
  obtain ⟨m1, m2⟩ := sz1_okA hc.1 (by omega) (by omega) (by omega : 0 ≤ sz1 c.length (Bouquet.sz b (Query.sz a 1048576)))
  have n1 : LeQ a := ⟨by have := g2.1; omega, fun x hx => by have := (g2.2 x hx).2; omega⟩
  have n2 : LeB b := ⟨by have := k2.1; omega, by have := k2.2.1; omega, by have := k2.2.2.1; omega, by have := k2.2.2.2.1.1; omega, by have := k2.2.2.2.2.1; omega, fun x hx => by have := k2.2.2.2.2.2 x hx; omega⟩
  have n3 : Le c := by omega
  have t1 := c_toQuery a.VariableCount a.Atoms g2
  have t2 := c_toBouquet b.Version b.Ratio b.Slack b.Box.Low b.Box.High b.Budgets b.Plans b.Contours k2.1 k2.2.1 k2.2.2.1 k2.2.2.2.1 k2.2.2.2.2
  have t3 := c_toRunNoteS c m2
  have q1 := fun x0 x1 => c_eqQuery a.VariableCount a.Atoms x0 x1 g2
  have q2 := fun x0 x1 x2 x3 x4 x5 x6 x7 => c_eqBouquet b.Version b.Ratio b.Slack b.Box.Low b.Box.High b.Budgets b.Plans b.Contours x0 x1 x2 x3 x4 x5 x6 x7 k2.1 k2.2.1 k2.2.2.1 k2.2.2.2.1 k2.2.2.2.2
  have q3 := fun ys => c_eqRunNoteS c ys m2
  have s1 := x_spec_AreOrderedNotes a b c n1 n2 n3
  have s2 := x_impl_AreOrderedNotes a b c n1 n2 n3
  unfold X_spec_AreOrderedNotes at s1
  unfold X_impl_AreOrderedNotes at s2
  simp only [Query.c_def, Bouquet.c_def, List.map_cons, List.map_nil] at s1 s2
  simp +decide [M_laws_FnExactAreOrderedNotes, e1, h1, e2, h2, h3, t1, t2, t3, s1, s2, q1, q2, q3]
end Go.Proofs.Ytiniphmomjnocaa
