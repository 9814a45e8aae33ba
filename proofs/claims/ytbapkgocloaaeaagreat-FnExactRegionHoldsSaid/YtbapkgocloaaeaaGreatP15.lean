/-
  Parts of the proofs for this seat: L20.
-/
import Derived.Test.YtbapkgocloaaeaaGreatP14
set_option linter.unusedSimpArgs false
set_option linter.unusedVariables false
set_option maxRecDepth 100000
set_option maxHeartbeats 4000000
/- part: L20 -/
namespace Go.Proofs.YtbapkgocloaaeaaGreat
open Go.AM
theorem Z2u (m : Zd) (q : Zb) (r : Region) (hm : m.okay) (hq : q.okay) (hr : r.okay) : C Z22 [.agg (m.c.map .t), .agg (q.c.map .t), .agg (r.c.map .t)] [] = some (Bo true, []) := by
  refine run Zbdq rfl ?_
  have e1 := fun l => Zbfb m.Scan.Fixed m.Scan.Zi m.Scan.Zj m.Scan.Zl m.Scan.Zk m.Scan.Steps m.Sort_.Fixed m.Sort_.Zi m.Sort_.Zj m.Sort_.Zl m.Sort_.Zk m.Sort_.Steps m.Hash.Fixed m.Hash.Zi m.Hash.Zj m.Hash.Zl m.Hash.Zk m.Hash.Steps m.Merge.Fixed m.Merge.Zi m.Merge.Zj m.Merge.Zl m.Merge.Zk m.Merge.Steps m.Nested.Fixed m.Nested.Zi m.Nested.Zj m.Nested.Zl m.Nested.Zk m.Nested.Steps l
  by_cases h1 : Zd.sz m (1048576) < 0
  · simp [Zly, e1, h1]
  obtain ⟨b1, g1⟩ := Zd.Zbb m _ hm (by omega) (by omega) (by omega : 0 ≤ Zd.sz m (1048576))
  have e2 := fun l => Zbe0 q.Ze q.Atoms l (hq.2)
  by_cases h2 : Zb.sz q (Zd.sz m (1048576)) < 0
  · simp [Zly, e1, h1, e2, h2]
  obtain ⟨b2, g2⟩ := Zb.Zbb q _ hq (by omega) (by omega) (by omega : 0 ≤ Zb.sz q (Zd.sz m (1048576)))
  have e3 := fun l => Zbfl r.Plan.Steps r.Box.Low r.Box.High r.Percent l
  by_cases h3 : Region.sz r (Zb.sz q (Zd.sz m (1048576))) < 0
  · simp [Zly, e1, h1, e2, h2, e3, h3]
  obtain ⟨b3, g3⟩ := Region.Zbb r _ hr (by omega) (by omega) (by omega : 0 ≤ Region.sz r (Zb.sz q (Zd.sz m (1048576))))
  have t1 := Zbe9 m.Scan.Fixed m.Scan.Zi m.Scan.Zj m.Scan.Zl m.Scan.Zk m.Scan.Steps m.Sort_.Fixed m.Sort_.Zi m.Sort_.Zj m.Sort_.Zl m.Sort_.Zk m.Sort_.Steps m.Hash.Fixed m.Hash.Zi m.Hash.Zj m.Hash.Zl m.Hash.Zk m.Hash.Steps m.Merge.Fixed m.Merge.Zi m.Merge.Zj m.Merge.Zl m.Merge.Zk m.Merge.Steps m.Nested.Fixed m.Nested.Zi m.Nested.Zj m.Nested.Zl m.Nested.Zk m.Nested.Steps (g1.1) (g1.2.1) (g1.2.2.1) (g1.2.2.2.1) (g1.2.2.2.2)
  have q1 := fun y0 y1 y2 y3 y4 y5 y6 y7 y8 y9 y10 y11 y12 y13 y14 y15 y16 y17 y18 y19 y20 y21 y22 y23 y24 y25 y26 y27 y28 y29 => Zbfa m.Scan.Fixed m.Scan.Zi m.Scan.Zj m.Scan.Zl m.Scan.Zk m.Scan.Steps m.Sort_.Fixed m.Sort_.Zi m.Sort_.Zj m.Sort_.Zl m.Sort_.Zk m.Sort_.Steps m.Hash.Fixed m.Hash.Zi m.Hash.Zj m.Hash.Zl m.Hash.Zk m.Hash.Steps m.Merge.Fixed m.Merge.Zi m.Merge.Zj m.Merge.Zl m.Merge.Zk m.Merge.Steps m.Nested.Fixed m.Nested.Zi m.Nested.Zj m.Nested.Zl m.Nested.Zk m.Nested.Steps y0 y1 y2 y3 y4 y5 y6 y7 y8 y9 y10 y11 y12 y13 y14 y15 y16 y17 y18 y19 y20 y21 y22 y23 y24 y25 y26 y27 y28 y29 (g1.1) (g1.2.1) (g1.2.2.1) (g1.2.2.2.1) (g1.2.2.2.2)
  have t2 := Zbey q.Ze q.Atoms (g2)
  have q2 := fun y0 y1 => Zbez q.Ze q.Atoms y0 y1 (g2)
  have t3 := Zbfj r.Plan.Steps r.Box.Low r.Box.High r.Percent (g3.1) (g3.2.1) (g3.2.2)
  have q3 := fun y0 y1 y2 y3 => Zbfk r.Plan.Steps r.Box.Low r.Box.High r.Percent y0 y1 y2 y3 (g3.1) (g3.2.1) (g3.2.2)
  have n1 : LeM m := ⟨by have := g1.1; omega, by have := g1.2.1; omega, by have := g1.2.2.1; omega, by have := g1.2.2.2.1; omega, by have := g1.2.2.2.2; omega⟩
  have n2 : LeQ q := ⟨by have := g2.1; omega, fun x hx => by have := (g2.2 x hx).2; omega⟩
  have n3 : LeR r := ⟨by have := g3.2.1; omega, by have := g3.2.2; omega⟩
  have s0 := Zbdp (m := m) (q := q) (r := r) n1 n2 n3
  unfold Zmu at s0
  have s1 := Zbdo (m := m) (q := q) (r := r) n1 n2 n3
  unfold Zmt at s1
  simp only [Zd.c_def, Zb.c_def, Region.c_def, List.map_cons, List.map_nil] at s0 s1
  simp +decide [Zly, e1, h1, e2, h2, e3, h3, t1, q1, t2, q2, t3, q3, s0, s1]
end Go.Proofs.YtbapkgocloaaeaaGreat
