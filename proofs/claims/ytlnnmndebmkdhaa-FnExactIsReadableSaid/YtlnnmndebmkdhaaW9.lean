/-
  RefuteModel, IsAdmitted, IsReadable: the walks and the law.
-/
import Derived.Test.YtlnnmndebmkdhaaW8
namespace Go.Proofs.Ytlnnmndebmkdhaa
open Go.AM
set_option linter.unusedSimpArgs false
set_option linter.unusedVariables false

abbrev mdl (m : Model) : List AV := [I m.Scan.Fixed, I m.Scan.PerLeft, I m.Scan.PerRight, I m.Scan.PerOutput, I m.Scan.PerPair, .t (.lst 2 (m.Scan.Steps.map CostStep.c)), I m.Sort_.Fixed, I m.Sort_.PerLeft, I m.Sort_.PerRight, I m.Sort_.PerOutput, I m.Sort_.PerPair, .t (.lst 2 (m.Sort_.Steps.map CostStep.c)), I m.Hash.Fixed, I m.Hash.PerLeft, I m.Hash.PerRight, I m.Hash.PerOutput, I m.Hash.PerPair, .t (.lst 2 (m.Hash.Steps.map CostStep.c)), I m.Merge.Fixed, I m.Merge.PerLeft, I m.Merge.PerRight, I m.Merge.PerOutput, I m.Merge.PerPair, .t (.lst 2 (m.Merge.Steps.map CostStep.c)), I m.Nested.Fixed, I m.Nested.PerLeft, I m.Nested.PerRight, I m.Nested.PerOutput, I m.Nested.PerPair, .t (.lst 2 (m.Nested.Steps.map CostStep.c))]
def mOp (m : Model) (k : Int) : Operator := if k = 1 then m.Scan else if k = 2 then m.Sort_ else if k = 3 then m.Hash else if k = 4 then m.Merge else m.Nested
theorem c_l22Op (m : Model) (k : Int) : C f_spec_l22Op [.agg (mdl m), I k] [] = some (.agg (opO (mOp m k)), []) := by
  refine run t_spec_l22Op rfl ?_
  unfold mOp
  by_cases h1 : k = 1
  · simp [M_spec_l22Op, h1]
  by_cases h2 : k = 2
  · simp [M_spec_l22Op, h2]
  by_cases h3 : k = 3
  · simp [M_spec_l22Op, h3]
  by_cases h4 : k = 4
  · simp [M_spec_l22Op, h4]
  simp [M_spec_l22Op, h1, h2, h3, h4]

def goodOp (o : Operator) : Prop := validOp o = true ∧ ¬ decr o ∧ ¬ cheap o
def admitted (m : Model) : Prop := goodOp m.Scan ∧ goodOp m.Sort_ ∧ goodOp m.Hash ∧ goodOp m.Merge ∧ goodOp m.Nested
abbrev LeM (m : Model) : Prop := Le m.Scan.Steps ∧ Le m.Sort_.Steps ∧ Le m.Hash.Steps ∧ Le m.Merge.Steps ∧ Le m.Nested.Steps
theorem LeM.op {m : Model} (h : LeM m) (k : Int) : Le (mOp m k).Steps := by
  obtain ⟨h1, h2, h3, h4, h5⟩ := h
  unfold mOp
  repeat' split
  all_goals assumption

abbrev RetK (k : Int) (X : List Fr → Option (AV × List Blk)) : Prop := ∃ s, (∃ w1 w2 h, finE 0 [.tmp 2, .tmp 3, .tmp 4] s = some (.tup [I k, w1, w2], h)) ∧ ∀ fr, X fr = EvX C fr .r s

theorem rf0 (m : Model) (hm : LeM m) (k : Int) (hk : 1 ≤ k ∧ k ≤ 5) :
    (¬ goodOp (mOp m k) ∧ RetK k (fun fr => EvL C fr [1, 5] B_spec_RefuteModel_0 ⟨[(1, .ptr 0 0), (5, I k)], [[]], [.box (mdl m)]⟩)) ∨
    (goodOp (mOp m k) ∧ ∀ fr, EvL C fr [1, 5] B_spec_RefuteModel_0 ⟨[(1, .ptr 0 0), (5, I k)], [[]], [.box (mdl m)]⟩ = EvL C fr [1, 5] B_spec_RefuteModel_0 ⟨[(1, .ptr 0 0), (5, I (k + 1))], [[]], [.box (mdl m)]⟩) := by
  have hl := hm.op k
  have w1 : IntKind.wrap .i64 (k + 1) = k + 1 := wrap64 (by omega) (by omega)
  have o1 := c_l22Op m k
  have h5 : k ≤ 5 := hk.2
  have v1 := c_spec_IsValidOperator (mOp m k).Fixed (mOp m k).PerLeft (mOp m k).PerRight (mOp m k).PerOutput (mOp m k).PerPair (mOp m k).Steps hl
  have ev : validOp ⟨(mOp m k).Fixed, (mOp m k).PerLeft, (mOp m k).PerRight, (mOp m k).PerOutput, (mOp m k).PerPair, (mOp m k).Steps⟩ = validOp (mOp m k) := rfl
  rw [ev] at v1
  generalize mOp m k = o at *
  rcases tf (validOp o) with hv | hv
  · rw [hv] at v1
    refine .inl ⟨(fun h => (by rw [h.1] at hv; cases hv)), ⟨[(2, I k), (3, .own 2), (4, .own 3)], [[]], [.box (mdl m), .box (opO o), .arr t_int 1 true [], .arr t_int 1 true []]⟩, ⟨.own 0, .own 1, _, by simp; rfl⟩, fun fr => ?_⟩
    show EvL _ _ _ _ _ = _
    rw [EvL_eq B_spec_RefuteModel_0.eq_1]
    simp +decide [h5, o1, v1]
  rw [hv] at v1
  rcases c_spec_FindDecrease o hl hv with ⟨hd, a, b, c, a', b', c', f1⟩ | ⟨hd, f1⟩
  · refine .inl ⟨fun h => h.2.1 hd, ⟨[(2, I k), (3, .own 2), (4, .own 3)], [[]], [.box (mdl m), .box (opO o), .arr t_int 1 true (c3 a b c), .arr t_int 1 true (c3 a' b' c')]⟩, ⟨.own 0, .own 1, _, by simp; rfl⟩, fun fr => ?_⟩
    show EvL _ _ _ _ _ = _
    rw [EvL_eq B_spec_RefuteModel_0.eq_1]
    simp +decide [h5, o1, v1, f1]
  rcases c_spec_l22Cheap o hl hv with ⟨hc, x, y, z, q1⟩ | ⟨hc, q1⟩
  · refine .inl ⟨fun h => h.2.2 hc, ⟨[(2, I k), (3, .own 4), (4, .own 5)], [[]], [.box (mdl m), .box (opO o), .arr t_int 1 true [], .arr t_int 1 true [], .arr t_int 1 true (c3 x y z), .arr t_int 1 true []]⟩, ⟨.own 0, .own 1, _, by simp; rfl⟩, fun fr => ?_⟩
    show EvL _ _ _ _ _ = _
    rw [EvL_eq B_spec_RefuteModel_0.eq_1]
    simp +decide [h5, o1, v1, f1, q1]
  · refine .inr ⟨⟨hv, hd, hc⟩, fun fr => ?_⟩
    rw [EvL_eq B_spec_RefuteModel_0.eq_1]
    simp +decide [h5, o1, v1, f1, q1, w1]

theorem c_spec_RefuteModel (m : Model) (hm : LeM m) : (admitted m ∧ C f_spec_RefuteModel [.agg (mdl m)] [] = some (.tup [I 0, .own 0, .own 1], [.arr t_int 1 true [], .arr t_int 1 true []])) ∨
    (¬ admitted m ∧ ∃ k : Int, k ≠ 0 ∧ ∃ w1 w2 h, C f_spec_RefuteModel [.agg (mdl m)] [] = some (.tup [I k, w1, w2], h)) := by
  have bad : ∀ (k : Int), k ≠ 0 → (∀ fr, EvL C fr [1, 5] B_spec_RefuteModel_0 ⟨[(1, .ptr 0 0), (5, I 1)], [[]], [.box (mdl m)]⟩ = EvL C fr [1, 5] B_spec_RefuteModel_0 ⟨[(1, .ptr 0 0), (5, I k)], [[]], [.box (mdl m)]⟩) →
      RetK k (fun fr => EvL C fr [1, 5] B_spec_RefuteModel_0 ⟨[(1, .ptr 0 0), (5, I k)], [[]], [.box (mdl m)]⟩) → ∃ k : Int, k ≠ 0 ∧ ∃ w1 w2 h, C f_spec_RefuteModel [.agg (mdl m)] [] = some (.tup [I k, w1, w2], h) := by
    rintro k hk e ⟨s, ⟨w1, w2, h, hp⟩, g⟩
    refine ⟨k, hk, w1, w2, h, run t_spec_RefuteModel rfl ?_⟩
    have g0 : ∀ fr, EvL C fr [1, 5] B_spec_RefuteModel_0 ⟨[(1, .ptr 0 0), (5, I 1)], [[]], [.box (mdl m)]⟩ = EvX C fr .r s := fun fr => (e fr).trans (g fr)
    simp [M_spec_RefuteModel, g0, EvX_fin_r, -finE]
    exact hp
  rcases rf0 m hm 1 (by omega) with ⟨h1, g1⟩ | ⟨h1, g1⟩
  · exact .inr ⟨fun h => h1 h.1, bad 1 (by omega) (fun _ => rfl) g1⟩
  rcases rf0 m hm 2 (by omega) with ⟨h2, g2⟩ | ⟨h2, g2⟩
  · exact .inr ⟨fun h => h2 h.2.1, bad 2 (by omega) (fun fr => g1 fr) g2⟩
  rcases rf0 m hm 3 (by omega) with ⟨h3, g3⟩ | ⟨h3, g3⟩
  · exact .inr ⟨fun h => h3 h.2.2.1, bad 3 (by omega) (fun fr => (g1 fr).trans (g2 fr)) g3⟩
  rcases rf0 m hm 4 (by omega) with ⟨h4, g4⟩ | ⟨h4, g4⟩
  · exact .inr ⟨fun h => h4 h.2.2.2.1, bad 4 (by omega) (fun fr => ((g1 fr).trans (g2 fr)).trans (g3 fr)) g4⟩
  rcases rf0 m hm 5 (by omega) with ⟨h5, g5⟩ | ⟨h5, g5⟩
  · exact .inr ⟨fun h => h5 h.2.2.2.2, bad 5 (by omega) (fun fr => (((g1 fr).trans (g2 fr)).trans (g3 fr)).trans (g4 fr)) g5⟩
  · refine .inl ⟨⟨h1, h2, h3, h4, h5⟩, run t_spec_RefuteModel rfl ?_⟩
    have g0 : ∀ fr, EvL C fr [1, 5] B_spec_RefuteModel_0 ⟨[(1, .ptr 0 0), (5, I 1)], [[]], [.box (mdl m)]⟩ = EvL C fr [1, 5] B_spec_RefuteModel_0 ⟨[(1, .ptr 0 0), (5, I 6)], [[]], [.box (mdl m)]⟩ := fun fr => ((((g1 fr).trans (g2 fr)).trans (g3 fr)).trans (g4 fr)).trans (g5 fr)
    simp [M_spec_RefuteModel, g0]
    rw [EvL_eq B_spec_RefuteModel_0.eq_1]
    simp +decide

open Classical in
theorem c_spec_IsAdmitted (m : Model) (hm : LeM m) : C f_spec_IsAdmitted [.agg (mdl m)] [] = some (Bo (decide (admitted m)), []) := by
  refine run t_spec_IsAdmitted rfl ?_
  rcases c_spec_RefuteModel m hm with ⟨ha, g⟩ | ⟨ha, k, hk, w1, w2, h, g⟩
  · simp [M_spec_IsAdmitted, g, ha]
  · simp [M_spec_IsAdmitted, g, ha, hk]
end Go.Proofs.Ytlnnmndebmkdhaa
